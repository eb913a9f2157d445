/-
  A part of a proof: StemBest returns true of any stem and editions, and leaves what it is handed as it was. No conditions.
-/
import Derived.Test.YtccogmkhijgelaaPad
import Derived.KernelRfl
namespace Go.Proofs.Ytccogmkhijgelaa
open Go.RowKit
section
variable {P : Program} {n : Nat} {B : Base} {e : Env} {σ : St} {ty : TypeId} {pos : String} {af : Array Edge}
theorem x_callNf {d : Option Nat} {g : FuncId} {f : Operand} {cs vs : List Value} {xs : List Operand} {at_ : Array TypeId}
   {R : Value → Heap → List (Nat × Obj) → Prop} {K : Value → St → Prop} (hg : Body P g) (hf : ev e f = .func (.func g) #[] cs.toArray) (hx : Av e xs vs)
   (hok : OkN P g (vs ++ cs).toArray σ.F R) (hn : ∀ v F' Hn, R v F' Hn → σ.F.le F' → K v ⟨F', Hn ++ σ.H⟩) :
   OpX P n B ⟨d, .call ⟨.value f, xs.toArray, at_⟩, ty, pos, af, none⟩ e σ K := by
 intro a w ha hw next Qx hnext
 refine Dz (K := fun v σ' => ∃ F' Hn, σ' = ⟨F', σ.H ++ Hn⟩ ∧ K v ⟨F', Hn ++ σ.H⟩) hg hf hx hok (fun v F' Hn hR hF => ⟨F', Hn, rfl, hn v F' Hn hR hF⟩) a w ha hw next Qx ?_
 intro v σ' w' hK hw'
 obtain ⟨F', Hn, rfl, hK⟩ := hK
 exact hnext v _ w' hK hw'.rot
end
/-- A slice that is read is a source. -/
theorem Sl.srcM {α : Type} {F : Heap} {H : List (Nat × Obj)} {v : Value} {s : Nat} {enc : α → List Value} {xs : List α} (h : Sl F v s enc xs) (hs : ∀ x, (enc x).length = s) (h1 : ∀ x ∈ xs, ∀ u ∈ enc x, u.oneCell' = true) :
   Src ⟨F, H⟩ v xs.length (xs.flatMap enc) s := by
 have hlen : ∀ l : List α, (l.flatMap enc).length = l.length * s := by
   intro l; induction l with
   | nil => simp
   | cons x l ih => simp [List.flatMap_cons, hs, ih, Nat.add_mul, Nat.add_comm]
 obtain ⟨a, c, rfl, hsp, hno, hlc, -⟩ := h.plain
 refine ⟨hlen xs, fun u hu => ?_, a, c, rfl, fun ha => (hno ha).1, fun x hx => ⟨fun h0 => hsp (by omega) x hx, fun j u hj => ?_⟩⟩
 · obtain ⟨x, hm, hx⟩ := List.mem_flatMap.1 hu
   exact h1 x hm u hx
 · subst hx
   have key : ∀ (l : List α) (j : Nat) (u : Value), (l.flatMap enc)[j]? = some u → ∃ i k, ∃ hi : i < l.length, j = i * s + k ∧ (enc l[i])[k]? = some u := by
     intro l
     induction l with
     | nil => intro j u hj; simp at hj
     | cons x l ih =>
       intro j u hj
       rw [List.flatMap_cons, List.getElem?_append] at hj
       split at hj
       · exact ⟨0, j, by simp, by simp, by simpa using hj⟩
       · rename_i hge
         rw [hs] at hj hge
         obtain ⟨i, k, hi, e1, e2⟩ := ih _ u hj
         exact ⟨i + 1, k, by simpa using hi, by rw [Nat.add_mul]; omega, by simpa using e2⟩
   obtain ⟨i, k, hi, rfl, hk⟩ := key xs j u hj
   have := h.cells i hi k u hk
   have hb : addc (base (.slice (some x) xs.length c)) (i * s + k) = addc x (i * s + k) := by
     simp [base, addc]
   rw [hb] at this
   exact this.cell
end Go.Proofs.Ytccogmkhijgelaa
namespace Go.Proofs.Ytccogmkhijgelaa
open Go.RowKit
theorem agg_128 : AggT Try.prog 128 3 := aggT_of (by kernel_rfl)
theorem bd_87 : Body Try.prog 87 := Bo (by kernel_rfl)
theorem el_64 : ElemT Try.prog 64 4 56 (.agg #[.string ⟨#[]⟩, .int .i64 0, .int .i64 0, .slice none 0 0]) := elemT_of (by kernel_rfl) rfl (by decide)
theorem sz_128 : SizeT Try.prog 128 3 := C0 (by kernel_rfl)
theorem sz_23 : SizeT Try.prog 23 1 := C0 (by kernel_rfl)
theorem sz_26 : SizeT Try.prog 26 1 := C0 (by kernel_rfl)
theorem src_eds {F : Heap} {v : Value} {ps : List (Value × Edn)} (h : Sl F v 4 edE ps) (hone : ∀ p ∈ ps, p.1.oneCell' = true) {H : List (Nat × Obj)} : Src ⟨F, H⟩ v ps.length (ps.flatMap edE) 4 := h.srcM edE_len fun p hp => edE_one (hone p hp)
theorem StmX.ones {F : Heap} {b kb : Nat} {vp ve : Value} {ps : List (Value × Edn)} {s : Stm} (hX : StmX F b vp ve (.map (some kb)) ps s) : ∀ u ∈ [vp, ve, .map (some kb)], u.oneCell' = true := by
 intro u hu
 simp only [List.mem_cons, List.not_mem_nil, or_false] at hu
 rcases hu with rfl | rfl | rfl
 · exact hX.r.places.plain.one
 · exact hX.r.eds.plain.one
 · rfl
set_option maxRecDepth 100000 in
theorem cloneEd_own {F : Heap} {v : Value} {ps : List (Value × Edn)} (h : Sl F v 4 edE ps) (hone : ∀ p ∈ ps, p.1.oneCell' = true) (hn : ps.length ≤ 1000) : OkN Try.prog 87 [v].toArray F fun u _F' Hn => Own 64 4 u ps.length (ps.flatMap edE) Hn := by
 obtain ⟨a0, c0, rfl, g1, g2, g3, g4⟩ := h.plain
 refine OkN.intro Try.func87 rfl Try.ntmps87 rfl fun w0 => ?_
 cases a0
 ·
  refine Af <| Ai fun ds => Aa rfl (Ac Ad) ?_
  refine Ah <| Ab <| Af <| Af <| Ai fun ds => Aa rfl (Ag (Al rfl <| Aj rfl)) ?_
  refine Aa rfl (q_eqlNil Try.underlying23 (Ae) Ad) ?_
  refine Ah <| Ab <| Aq (Ae) rfl ?_
  refine Af <| Ai fun ds => Aa rfl (Ac Ad) ?_
  refine Ah <| Ab <| A4 <| Bc ?_
  refine Ep rfl (.tmp (Ae) .nil) (List.nil_sublist _) ?_
  obtain ⟨h0, -⟩ := g2 rfl
  have : ps = [] := List.eq_nil_of_length_eq_zero h0
  subst this
  exact Ef
 ·
  refine Af <| Ai fun ds => Aa rfl (Ac Ad) ?_
  refine Ah <| Ab <| Af <| Af <| Ai fun ds => Aa rfl (Ag (Al rfl <| Aj rfl)) ?_
  refine Aa rfl (q_eqlNil Try.underlying23 (Ae) Ad) ?_
  refine Ah <| Ab <| Am (Ae) rfl ?_
  refine Au <| Ab <| Af <| Ai fun ds => Bk rfl (x_build0 B7 fun b1 hb1 nb1 => ?_)
  refine Aa rfl (Ag (Az rfl <| Aj rfl)) ?_
  refine Bk rfl (B4 B7 el_64 (Al rfl <| Ae) (Eg rfl) (Ae) (src_eds h hone) (by omega) (by omega) (.z) .box fun v2 R3 ho4 => ?_)
  have ho1 : Own 64 4 v2 ps.length (ps.flatMap edE) R3 := by simpa using ho4
  refine Aa rfl (Ac (Ae)) ?_
  refine Ah <| Ab <| A4 <| Ep rfl (.tmp (Ae) .nil) (List.sublist_append_left _ _) ?_
  exact ho1
def IntsR7 (F : Heap) (u : Value) (p : List Int × Int) : Prop := ∃ v, u = .tuple #[v, .int .i64 p.2] ∧ Ints F v p.1
theorem IntsR7.mono {F F' : Heap} {u : Value} {p : List Int × Int} (h : IntsR7 F u p) (hF : F.le F') : IntsR7 F' u p := by obtain ⟨v, h1, h2⟩ := h; exact ⟨v, h1, h2.mono hF⟩
set_option maxRecDepth 100000 in
theorem reading_top_ok {F : Heap} {vp ve : Value} {ps : List (Value × Edn)} {s : Stm} (hr : StmR F vp ve ps s) {v : Value} {l : List Int} (hl : Ints F v l) (z q : Int) : Ok Try.prog 35 [.agg #[vp, ve], v, .int .i64 z, .int .i64 q].toArray F fun u F' => IntsR7 F' u (readE s l z q) := by
 have hle0 : F.le F := Heap.le_refl _
 refine Ok.intro Try.func35 rfl Try.ntmps35 rfl fun w0 => ?_
 have hL := hl.plain.lt
 have hlen := hr.len
 have hL1 := hr.eds.plain.lt
 have hL2 := hr.places.plain.lt
 by_cases hok : treeErr s l = 0
 ·
  obtain ⟨hv, hll, ht⟩ := tree_ok hok
  have hne := hv.ne
  have hnp := hv.np
  have hl5 : l.length ≤ 5 := by omega
  have hcv := changes_costV (s := s) ht hv hll
  have hcb := costL_bound (s := s) (l := l)
  refine Af <| Ai fun ds => Bk rfl (B1 (Aj rfl) rfl fun b1 hb1 nb1 => ?_)
  refine Aa rfl (Ac Ad) ?_
  refine Aa rfl (Ac Ad) ?_
  refine Ah <| Ab <| Af <| Ai fun ds => Aa rfl (A8 Bw (Ar rfl <| Ae) rfl rfl (A3 0 rfl)) ?_
  refine Aa rfl (Ag (Az rfl <| Aj rfl)) ?_
  refine Bk rfl (Dz bd_68 A1 (.cons (Al rfl <| Ae) (.cons (Ae) .nil)) (enter_ok hr hl hok) fun v2 F3 R6 hr4 hF5 => ?_)
  replace hr := hr.mono hF5
  replace hle0 := Heap.le_trans hle0 hF5
  obtain ⟨ba, kb, rfl, hX, rfl⟩ := hr4
  refine Aa rfl (Ag (Ae)) ?_
  refine Aa rfl (Ax (Ae) rfl) ?_
  refine Aa rfl (Ax (Al rfl <| Ae) rfl) ?_
  refine Aa rfl (Ax (Ar rfl <| Ae) rfl) ?_
  refine Bk rfl (Cd Ea rfl fun b7 hb7 nb7 => ?_)
  refine Aa rfl (Ac (Ar rfl <| Al rfl <| Ae)) ?_
  refine Ck (Ch Ei (Al rfl <| Ae) (Ar rfl <| Al rfl <| Ae) (i := 0) rfl rfl rfl rfl Dg (.here) ?_)
  refine Aa rfl (Ac (Ar rfl <| Ae)) ?_
  refine Ah <| Ab <| Af <| A0 <| Af <| Cg (i := 1) rfl hb1 (.next <| .here) fun F8 hF9 hz4 => ?_
  replace hr := hr.mono hF9
  replace hle0 := Heap.le_trans hle0 hF9
  replace hX := hX.mono hF9
  refine Cg (i := 0) rfl hb7 (.here) fun F10 hF11 hz11 => ?_
  replace hr := hr.mono hF11
  replace hle0 := Heap.le_trans hle0 hF11
  replace hX := hX.mono hF11
  replace hz4 := hF11 _ _ hz4
  refine Ai fun ds => Aa rfl (Ag (Ae)) ?_
  refine Aa rfl (By (Ae) Ad) ?_
  refine Aa rfl (Ac (Ae)) ?_
  refine Ah <| Ab <| Am (Ae) (by decide) ?_
  by_cases h1 : inB 0 (s.editions.length - 1) z = true
  ·
   refine Af <| Ai fun ds => Aa rfl (Ao Bv (A7 rfl <| Az rfl <| Ar rfl <| Al rfl <| Ae)) ?_
   refine Aa rfl (Ap Bz (Ae) (CellF.own hz4 rfl).cell) ?_
   refine Aa rfl (Bh B7 (Ae) hr.eds.plain) ?_
   refine Aa rfl (Ew (Ae) Ad rfl (by omega) (by omega)) ?_
   refine Aa rfl (Ag (A5 rfl <| Az rfl <| Aj rfl)) ?_
   refine Bk rfl (B2 Be Db rfl (.cons (Ae) .nil) rfl rfl (by decide) (by simp [Value.oneCell']) fun b12 hb12 nb12 => ?_)
   refine B9 (i := 0) rfl hb12 .here fun F13 hF14 hz15 => ?_
   replace hr := hr.mono hF14
   replace hle0 := Heap.le_trans hle0 hF14
   replace hX := hX.mono hF14
   replace hz4 := hF14 _ _ hz4
   replace hz11 := hF14 _ _ hz11
   have hsl16 := C4 hz15
   refine B0 rfl (Bj Ec A1 (.cons Ad (.cons (Ar rfl <| Ae) (.cons (Ae) .nil))) (Ci _ _ hsl16) (fun _ _ h => h)) ?_
   refine Aa rfl (Ag (Ae)) ?_
   refine At rfl rfl (Ae) (by simp [hlen, h1]) ?_
   refine Aa rfl (Ao Co (A5 rfl <| Az rfl <| Ar rfl <| Al rfl <| Ae)) ?_
   refine At rfl rfl (Al rfl <| Ae) (by simp [hlen, h1]) ?_
   refine Aa rfl (Ap C2 (Ae) (CellF.own hz4 rfl).cell) ?_
   refine At rfl rfl (Ar rfl <| Ae) (by simp [hlen, h1]) ?_
   refine Aa rfl (Bh Da (Ae) hr.places.plain) ?_
   refine At rfl rfl (Ar rfl <| Al rfl <| Ae) (by simp [hlen, h1]) ?_
   refine Aa rfl (Ew (Ae) Ad rfl (by omega) (by omega)) ?_
   refine At rfl rfl (Az rfl <| Ae) (by simp [hlen, h1]) ?_
   refine Aa rfl (Ag (A5 rfl <| A7 rfl <| Az rfl <| Aj rfl)) ?_
   refine At rfl rfl (Az rfl <| Al rfl <| Ae) (by simp [hlen, h1]) ?_
   refine Bk rfl (B2 Be Db rfl (.cons (Ae) .nil) rfl rfl (by decide) (by simp [Value.oneCell']) fun b17 hb17 nb17 => ?_)
   refine B9 (i := 0) rfl hb17 .here fun F18 hF19 hz20 => ?_
   replace hr := hr.mono hF19
   replace hle0 := Heap.le_trans hle0 hF19
   replace hX := hX.mono hF19
   replace hz4 := hF19 _ _ hz4
   replace hz11 := hF19 _ _ hz11
   have hsl21 := C4 hz20
   refine At rfl rfl (Az rfl <| Ar rfl <| Ae) (by simp [hlen, h1]) ?_
   refine B0 rfl (Bj Ec A1 (.cons Ad (.cons (Ar rfl <| Ae) (.cons (Ae) .nil))) (Ci _ _ hsl21) (fun _ _ h => h)) ?_
   refine Aa rfl (Bg (Az rfl <| Ar rfl <| Al rfl <| Ae) (by simp [hlen, h1]) (Ae)) ?_
   refine Aa rfl (Ac (Ae)) ?_
   refine Ah <| Ab ?_
   by_cases h2 : inB 0 (s.places.length - 1) q = true
   ·
    have h12 : (inB 0 (s.editions.length - 1) z && inB 0 (s.places.length - 1) q) = true := by rw [h1, h2]; rfl
    obtain ⟨x, rfl, hx⟩ := inB_nat h1
    obtain ⟨p, rfl, hp⟩ := inB_nat h2
    have hxp : x < ps.length := by omega
    have hrx := hr.rd hxp
    have hpx : p < (s.ed x).rd.length := by rw [hv.rdl x hx]; exact hp
    have er := rdT_at hpx
    have hrdl := hv.rdl x hx
    have hrb9 := hv.rd x p hx hp
    have e1 := hr.at hxp
    refine Am (Ae) (by simp [h2]) ?_
    by_cases hc : costL s l = 1000
    ·
     refine Af <| Ai fun ds => Aa rfl (Ag (A5 rfl <| Az rfl <| Al rfl <| Ae)) ?_
     refine Aa rfl (A8 B5 (A5 rfl <| Az rfl <| Ar rfl <| Al rfl <| Ae) rfl rfl (C1 hz11)) ?_
     refine WL_order (.cons (.here) <| .nil) ?_
     refine Bk rfl (x_callM bd_69 A1 (.cons (Al rfl <| Ae) (.cons (Ae) .nil)) rfl (changes_ok hX ht hll hv KnownT.nil) fun v26 F27 H30 hr28 hF29 => ?_)
     obtain ⟨es2, rfl, rfl, hK2⟩ := hr28
     refine Aa rfl (Bx (Ae) Ad) ?_
     refine Aa rfl (Ac (Ae)) ?_
     refine Ah <| Ab <| Aq (Ae) (by rw [hcv]; unfold costV; rw [if_pos hc]; rfl) ?_
     refine Af <| Ai fun ds => Aa rfl (Ac Ad) ?_
     refine Aa rfl (Ac Ad) ?_
     refine Ah <| Ab <| A4 <| Bm (Bc ?_)
     refine Ay rfl (.tmp (Al rfl <| Ae) (.tmp (Ae) .nil)) ?_
     rw [readE_bad (readErr_3 hok h12 hc) (by decide)]
     exact ⟨_, rfl, Sl.nil⟩
    ·
     have hre := readErr_0 hok h12 hc
     refine Af <| Ai fun ds => Aa rfl (Ag (A5 rfl <| Az rfl <| Al rfl <| Ae)) ?_
     refine Aa rfl (A8 B5 (A5 rfl <| Az rfl <| Ar rfl <| Al rfl <| Ae) rfl rfl (C1 hz11)) ?_
     refine WL_order (.cons (.here) <| .nil) ?_
     refine Bk rfl (x_callM bd_69 A1 (.cons (Al rfl <| Ae) (.cons (Ae) .nil)) rfl (changes_ok hX ht hll hv KnownT.nil) fun v35 F36 H39 hr37 hF38 => ?_)
     replace hr := hr.mono hF38
     replace hle0 := Heap.le_trans hle0 hF38
     replace hX := hX.mono hF38
     replace hrx := hrx.mono hF38
     replace hz4 := hF38 _ _ hz4
     replace hz11 := hF38 _ _ hz11
     obtain ⟨es2, rfl, rfl, hK2⟩ := hr37
     refine Aa rfl (Bx (Ae) Ad) ?_
     refine Aa rfl (Ac (Ae)) ?_
     refine Ah <| Ab <| Am (Ae) (by rw [hcv]; unfold costV; rw [if_neg hc]; exact decide_eq_false (by omega)) ?_
     refine Au <| Bb <| Ab <| Af <| Ai fun ds => Aa rfl (Ag (A5 rfl <| A7 rfl <| Ar rfl <| Ae)) ?_
     refine Aa rfl (A8 B5 (A5 rfl <| A7 rfl <| Az rfl <| Ae) rfl rfl (C1 hz11)) ?_
     refine Aa rfl (Ag (Bq rfl <| A7 rfl <| Aj rfl)) ?_
     refine B0 rfl (Bj bd_82 A1 (.cons (Ar rfl <| Ae) (.cons (Al rfl <| Ae) (.cons (Ae) .nil))) (D5 hX ht hll hv hp) (fun _ _ h => h)) ?_
     refine Aa rfl (Ac (Ae)) ?_
     refine Ah <| Ab <| Af <| Ai fun ds => Aa rfl (Ao Bv (Bq rfl <| A7 rfl <| Ar rfl <| Ae)) ?_
     refine Aa rfl (Ap Bz (Ae) (CellF.own hz4 rfl).cell) ?_
     refine Aa rfl (Ag (Bq rfl <| A7 rfl <| Az rfl <| Al rfl <| Aj rfl)) ?_
     refine Aa rfl (A9 (k := x) B7 (Al rfl <| Ae) hr.eds.plain (Ae) rfl hxp) ?_
     refine Aa rfl (Bt Cf (Ae)) ?_
     refine Aa rfl (Ap B8 (Ae) (hr.eds.cell hxp rfl)) ?_
     refine Aa rfl (Ag (Bq rfl <| A5 rfl <| Al rfl <| Aj rfl)) ?_
     refine Aa rfl (A9 (k := p) Be (Al rfl <| Ae) hrx.plain (Ae) rfl hpx) ?_
     refine Aa rfl (Ap Bl (Ae) (hrx.cell1 hpx rfl)) ?_
     refine Aa rfl (Ac (Ae)) ?_
     refine Ah <| Ab <| Af <| Af <| Ai fun ds => Aa rfl (Ag Ad) ?_
     refine Ah <| Ab <| A0 <| Bs [8, 14, 15, 62, 63, 64, 65, 66, 67, 68, 69, 70, 71, 72, 73, 74, 75, 76, 77, 78, 79, 80, 81, 82, 83, 84, 85, 86, 87, 88, 89, 90, 91, 92, 93, 94, 95, 96, 97, 98, 99, 100, 101, 102, 103, 104, 105, 106, 107, 108, 109, 110, 111, 112, 113, 114, 115, 116, 117, 118, 119, 120, 121] (fun m e σ => ∃ G, F36.le G ∧ ∃ k : Nat, m + k = 3 ∧ e 62 = .int .i64 (k : Int) ∧ ∃ v8 R8, e 8 = v8 ∧ Own 3 1 v8 (readTo s l x p k).length ((readTo s l x p k).flatMap intE) R8 ∧ σ = ⟨G, (kb, mapO es2) :: R8⟩) (3) ?_ ?_
     · exact ⟨_, Heap.le_refl _, 0, by omega, (Ae), _, _, (Bq rfl <| A5 rfl <| Az rfl <| Ae), Own.nil, rfl⟩
     ·
      rintro m e _ ⟨G, hFG, k, hm, hs62, v8, R8, hs8, ho, rfl⟩; have hrl := readTo_len (s := s) (l := l) (x := x) (p := p) (k := k); replace hr := hr.mono hFG; replace hX := hX.mono hFG; replace hrx := hrx.mono hFG; replace hz4 := hFG _ _ hz4; replace hz11 := hFG _ _ hz11; have hle0 := Heap.le_trans hle0 hFG
      by_cases hlt : k < 3
      ·
       refine Af <| Ai fun ds => Aa rfl (Br (As rfl hs62) Ad) ?_
       refine Ah <| Ab <| Af <| Aq (Ae) (by first | rfl | exact decide_eq_true (by omega)) ?_
       by_cases hk0 : 0 < s.r x p
       ·
        refine Au <| Ab <| Af <| A0 <| Af <| Ai fun ds => Aa rfl (Ag (Al rfl <| As rfl hs62)) ?_
        refine Aa rfl (Ac (Ae)) ?_
        refine Ah <| Ab <| Af <| Af <| Ai fun ds => Aa rfl (Ag (Ar rfl <| Al rfl <| Ak rfl <| Al rfl <| Ae)) ?_
        refine Aa rfl (Ds (Ae) Ad) ?_
        refine Aa rfl (Ag (Ae)) ?_
        refine At rfl rfl (Ae) (by rw [er]; exact decide_eq_true hk0) ?_
        refine Aa rfl (Ag (Az rfl <| Ar rfl <| Ak rfl <| Al rfl <| Ae)) ?_
        refine At rfl rfl (Al rfl <| Ae) (by rw [er]; exact decide_eq_true hk0) ?_
        refine Aa rfl (Ag (Az rfl <| Ae)) ?_
        refine At rfl rfl (Ar rfl <| Ae) (by rw [er]; exact decide_eq_true hk0) ?_
        refine Aa rfl (Bp (Ae) Ad rfl (by omega) (by omega)) ?_
        refine At rfl rfl (Ar rfl <| Al rfl <| Ae) (by rw [er]; exact decide_eq_true hk0) ?_
        refine Aa rfl (By (Ar rfl <| Ae) (Ae)) ?_
        refine Aa rfl (A6 (Az rfl <| Ae) (by rw [er]; exact decide_eq_true hk0) (Ae)) ?_
        refine Ah <| Ab ?_
        by_cases hke : s.r x p = (k : Int) + 1
        ·
         have hkn : (decide (s.r x p = 0) || decide (s.r x p = (k : Int) + 1)) = true := by rw [decide_eq_true hke]; simp
         refine Am (Ae) (by rw [er]; exact decide_eq_false (fun h => h hke)) ?_
         have hvm := setS_valid (v := (k : Int) + 1) hv hx hp (by omega)
         refine Au <| Ab <| Af <| Ai fun ds => Aa rfl (Ag (A7 rfl <| Ar rfl <| Al rfl <| Ak rfl <| Bq rfl <| A7 rfl <| Ar rfl <| Ae)) ?_
         refine Aa rfl (B3 (Ae)) ?_
         refine Aa rfl (A8 agg_128 (Ae) rfl rfl (C1 hX.blk)) ?_
         refine Bk rfl (Cd zr_128 rfl fun b41 hb41 nb41 => ?_)
         refine Ck (Ch sz_128 (Ae) (Al rfl <| Ae) (i := 0) rfl rfl rfl rfl hX.ones (.here) ?_)
         refine Ah <| Ab <| Af <| Ai fun ds => Aa rfl (Ag (A7 rfl <| Az rfl <| Ar rfl <| Al rfl <| Ak rfl <| Bq rfl <| A7 rfl <| Ar rfl <| Ae)) ?_
         refine Aa rfl (B3 (Ae)) ?_
         refine Aa rfl (Ao Ca (Ae)) ?_
         refine Aa rfl (Ao Bv (Ae)) ?_
         refine Aa rfl (Ap Bz (Ae) (CellF.own hX.blk rfl).cell) ?_
         refine Bk rfl (x_callNf bd_87 A1 (.cons (Ae) .nil) (cloneEd_own hX.r.eds hX.r.one (by omega)) fun v42 F43 R46 hr44 hF45 => ?_)
         replace hX := hX.mono hF45
         replace hrx := hrx.mono hF45
         replace hFG := Heap.le_trans hFG hF45
         replace hle0 := Heap.le_trans hle0 hF45
         replace hz11 := hF45 _ _ hz11
         have hoE := hr44
         refine Aa rfl (Ao Ca (Az rfl <| Ar rfl <| Ae)) ?_
         refine Aa rfl (Ao Bv (Ae)) ?_
         refine WL_orderB (.one (.skip <| .here) <| .one (.skip <| .here) <| .blk (.lastS) <| .lastb (.last)) ?_
         refine Ck (Cl sz_23 (Ae) (Ar rfl <| Ae) (i := 0) rfl (.next <| .here) (Own.one hoE) (.here) ?_)
         refine Ah <| Ab <| Af ?_
         have hleS := hle0
         refine Cu (.inl rfl) (fun _ _ h => h) (.cons_cons _ <| .cons_cons _ <| .refl _) [16] (by kernel_rfl) fun ds => ?_
         refine A2 0 rfl (by kernel_rfl) (by kernel_rfl) (by kernel_rfl) (by kernel_rfl) rfl rfl (fun _ h => h.drop (.cons_cons _ <| .cons_cons _ <| .refl _)) (fun _ _ _ h => h) (Ao Ca (A7 rfl <| Ae)) ?_
         refine A2 1 rfl (by kernel_rfl) (by kernel_rfl) (by kernel_rfl) (by kernel_rfl) rfl rfl (fun _ h => h.drop (.cons_cons _ <| .cons_cons _ <| .refl _)) (fun _ _ _ h => h) (Ao Bv (Ae)) ?_
         refine A2 2 rfl (by kernel_rfl) (by kernel_rfl) (by kernel_rfl) (by kernel_rfl) rfl rfl (fun _ h => h.drop (.cons_cons _ <| .cons_cons _ <| .refl _)) (fun _ _ _ h => h) (Ap Bz (Ae) (Cell.own 0 rfl rfl)) ?_
         refine A2 3 rfl (by kernel_rfl) (by kernel_rfl) (by kernel_rfl) (by kernel_rfl) rfl rfl (fun _ h => h.drop (.cons_cons _ <| .cons_cons _ <| .refl _)) (fun _ _ _ h => h) (Ag (A5 rfl <| A7 rfl <| Ar rfl <| Ak rfl <| Bq rfl <| A5 rfl <| Az rfl <| Ar rfl <| Aj rfl)) ?_
         refine A2 4 rfl (by kernel_rfl) (by kernel_rfl) (by kernel_rfl) (by kernel_rfl) rfl rfl (fun _ h => h.drop (.cons_cons _ <| .cons_cons _ <| .refl _)) (fun _ _ _ h => h) (Ag (A5 rfl <| A7 rfl <| Ar rfl <| Al rfl <| Ak rfl <| Bq rfl <| A7 rfl <| Ar rfl <| Ae)) ?_
         refine A2 5 rfl (by kernel_rfl) (by kernel_rfl) (by kernel_rfl) (by kernel_rfl) rfl rfl (fun _ h => h.drop (.cons_cons _ <| .cons_cons _ <| .refl _)) (fun _ _ _ h => h) (B3 (Ae)) ?_
         refine A2 6 rfl (by kernel_rfl) (by kernel_rfl) (by kernel_rfl) (by kernel_rfl) rfl rfl (fun _ h => h.drop (.cons_cons _ <| .cons_cons _ <| .refl _)) (fun _ _ _ h => h) (Ao Ca (Ae)) ?_
         refine A2 7 rfl (by kernel_rfl) (by kernel_rfl) (by kernel_rfl) (by kernel_rfl) rfl rfl (fun _ h => h.drop (.cons_cons _ <| .cons_cons _ <| .refl _)) (fun _ _ _ h => h) (Ao Bv (Ae)) ?_
         refine A2 8 rfl (by kernel_rfl) (by kernel_rfl) (by kernel_rfl) (by kernel_rfl) rfl rfl (fun _ h => h.drop (.cons_cons _ <| .cons_cons _ <| .refl _)) (fun _ _ _ h => h) (Ap Bz (Ae) (CellF.own hX.blk rfl).cell) ?_
         refine A2 9 rfl (by kernel_rfl) (by kernel_rfl) (by kernel_rfl) (by kernel_rfl) rfl rfl (fun _ h => h.drop (.cons_cons _ <| .cons_cons _ <| .refl _)) (fun _ _ _ h => h) (Ag (Bq rfl <| Ak rfl <| Bq rfl <| A5 rfl <| Az rfl <| Ar rfl <| Aj rfl)) ?_
         refine A2 10 rfl (by kernel_rfl) (by kernel_rfl) (by kernel_rfl) (by kernel_rfl) rfl rfl (fun _ h => h.drop (.cons_cons _ <| .cons_cons _ <| .refl _)) (fun _ _ _ h => h) (A9 (k := x) B7 (Al rfl <| Ae) hX.r.eds.plain (Ae) rfl hxp) ?_
         refine A2 11 rfl (by kernel_rfl) (by kernel_rfl) (by kernel_rfl) (by kernel_rfl) rfl rfl (fun _ h => h.drop (.cons_cons _ <| .cons_cons _ <| .refl _)) (fun _ _ _ h => h) (Bt Cf (Ae)) ?_
         refine A2 12 rfl (by kernel_rfl) (by kernel_rfl) (by kernel_rfl) (by kernel_rfl) rfl rfl (fun _ h => h.drop (.cons_cons _ <| .cons_cons _ <| .refl _)) (fun _ _ _ h => h) (Ap B8 (Ae) (hX.r.eds.cell hxp rfl)) ?_
         refine Dr 13 rfl (by kernel_rfl) rfl (x_callNf bd_76 A1 (.cons (Ae) .nil) (cloneInt_own hrx (by omega)) fun v47 F48 R51 hr49 hF50 => ⟨fun _ _ _ h => (h.drop (List.sublist_append_of_sublist_right <| .cons_cons _ <| .cons_cons _ <| .refl _)).weak hF50 hleS, ?_⟩)
         replace hX := hX.mono hF50
         replace hFG := Heap.le_trans hFG hF50
         replace hz11 := hF50 _ _ hz11
         have hoR := hr49
         refine A2 14 rfl (by kernel_rfl) (by kernel_rfl) (by kernel_rfl) (by kernel_rfl) rfl rfl (fun _ h => (h.drop (List.sublist_append_of_sublist_right <| .cons_cons _ <| .cons_cons _ <| .refl _)).weak hF50 hleS) (fun _ _ _ h => h) (A9 (k := x) B7 (A7 rfl <| Ar rfl <| Al rfl <| Ae) (hoE.plain (by omega)) (A7 rfl <| Ar rfl <| Ae) rfl hxp) ?_
         refine A2 15 rfl (by kernel_rfl) (by kernel_rfl) (by kernel_rfl) (by kernel_rfl) rfl rfl (fun _ h => (h.drop (List.sublist_append_of_sublist_right <| .cons_cons _ <| .cons_cons _ <| .refl _)).weak hF50 hleS) (fun _ _ _ h => h) (Bt Cf (Ae)) ?_
         refine WX_orderB (.one (.skip <| .here) <| .one (.skip <| .here) <| .blk (.skip <| .here) <| .blk (.lastS) <| .lastb (.last)) ?_
         refine WX_x0 16 rfl (by kernel_rfl) (x_storeR sz_26 (Ae) (Ar rfl <| Ae) hoE (by rw [Ey edE_len]; omega) (Own.one hoR) (.s <| .s <| .k <| .z) .more fun R52 ho53 => ⟨(fun h => nomatch h), ?_⟩)
         have hoE2 := ed_own_set (e := (s.ed x).setR p ((k : Int) + 1)) ho53 hxp (by rw [e1]; rfl) (by rw [e1]; rfl) (by rw [e1]; rfl)
         refine Cr (by kernel_rfl) ?_ _
         refine Ab <| Af <| Ai fun ds => Aa rfl (Ao Ca (A5 rfl <| A7 rfl <| Ae)) ?_
         refine Aa rfl (Ao Bv (Ae)) ?_
         refine Aa rfl (Ap Bz (Ae) (Cell.own 0 rfl rfl)) ?_
         refine Aa rfl (Ag (Bq rfl <| A7 rfl <| Ar rfl <| Ak rfl <| Bq rfl <| A5 rfl <| Az rfl <| Ar rfl <| Aj rfl)) ?_
         refine Aa rfl (A9 (k := x) B7 (Al rfl <| Ae) (hoE2.plain (by rw [List.length_set]; omega)) (Ae) rfl (by simp; omega)) ?_
         refine Aa rfl (Bt Cf (Ae)) ?_
         refine Aa rfl (Ap B8 (Ae) (Dx hoE2 (fun p hp => .tail _ (.tail _ (List.mem_append_right _ (List.mem_append_left _ hp)))) (ed_set_get hxp))) ?_
         refine Aa rfl (Ag (Bq rfl <| A7 rfl <| Az rfl <| Ar rfl <| Ak rfl <| Bq rfl <| A5 rfl <| Az rfl <| Ar rfl <| Aj rfl)) ?_
         refine Aa rfl (Ag (Bq rfl <| A7 rfl <| Az rfl <| Ae)) ?_
         refine Aa rfl (Bp (Ae) Ad rfl (by omega) (by omega)) ?_
         refine Aa rfl (A9 (k := p) Be (Ar rfl <| Al rfl <| Ae) (hoR.plain (by omega)) (Ar rfl <| Ae) rfl hpx) ?_
         refine Ck (x_storeR sz_3 (Ae) (Al rfl <| Ae) hoR (by rw [Ey (enc := intE) (s := 1) (fun _ => rfl)]; omega) rfl (.s <| .s <| .k <| .k <| .z) .last fun R54 ho55 => ?_)
         have hoR2 := ho55
         rw [show p * 1 = p * 1 + 0 from rfl, int_flat_set hpx] at hoR2
         replace hoR2 := hoR2.to (k' := ((s.ed x).rd.set p ((k : Int) + 1)).length) (by simp)
         refine Ah <| Ab <| Af <| Cn (σ := ⟨_, _⟩) (by rfl) hoR2 (.s <| .s <| .k <| .k <| .z) .last fun F56 hF57 hz58 => ?_
         replace hX := hX.mono hF57
         replace hFG := Heap.le_trans hFG hF57
         replace hz11 := hF57 _ _ hz11
         refine WC_pickB (.one (.here) <| .one (.here) <| .blk (.here) <| .lastb (.here)) ?_
         have hrn := hoR2.sl (fun _ => rfl) hz58 (by simp; omega)
         refine Cn (σ := ⟨_, _⟩) (by rfl) hoE2 (.s <| .s <| .k <| .z) .last fun F59 hF60 hz61 => ?_
         replace hX := hX.mono hF60
         replace hFG := Heap.le_trans hFG hF60
         replace hrn := hrn.mono hF60
         replace hz11 := hF60 _ _ hz11
         refine WC_pickB (.one (.here) <| .one (.here) <| .lastb (.here)) ?_
         have hen := hoE2.sl (fun _ => rfl) hz61 (by simp; omega)
         refine Cg (i := 0) rfl hb41 (.here) fun F62 hF63 hz15 => ?_
         replace hX := hX.mono hF63
         replace hFG := Heap.le_trans hFG hF63
         replace hrn := hrn.mono hF63
         replace hen := hen.mono hF63
         replace hz11 := hF63 _ _ hz11
         have hXm : StmX _ _ _ _ _ _ (setS s x p ((k : Int) + 1)) := ⟨hX.r.set hen hrn, hz15⟩
         by_cases hpl : decide (placeN (setS s x p ((k : Int) + 1)) l p = placeN s l p) = true
         ·
          have hrb : readB s l x p k = true := by unfold readB; rw [hkn, hpl]; rfl
          refine Ai fun ds => Aa rfl (A8 B5 (Bq rfl <| A5 rfl <| Ar rfl <| Ak rfl <| Bq rfl <| A7 rfl <| Ar rfl <| Al rfl <| Ae) rfl rfl (C1 hz11)) ?_
          refine Aa rfl (Ag (Bq rfl <| A5 rfl <| Ar rfl <| Al rfl <| Ak rfl <| Bq rfl <| A5 rfl <| Az rfl <| Ar rfl <| Aj rfl)) ?_
          refine B0 rfl (Bj bd_82 A1 (.cons (Bq rfl <| Az rfl <| Al rfl <| Ae) (.cons (Al rfl <| Ae) (.cons (Ae) .nil))) (D5 hXm ht (by rw [setS_len]; exact hll) hvm hp) (fun _ _ h => h)) ?_
          refine Aa rfl (Ag (Bq rfl <| A5 rfl <| Az rfl <| Al rfl <| Ak rfl <| A7 rfl <| Ar rfl <| Al rfl <| Ae)) ?_
          refine Aa rfl (Bx (Al rfl <| Ae) (Ae)) ?_
          refine Ah <| Ab <| Aq (Ae) hpl ?_
          refine Ai fun ds => Aa rfl (Ag (Bq rfl <| A5 rfl <| Az rfl <| Ar rfl <| Al rfl <| As rfl hs8)) ?_
          refine Aa rfl (Ag (Bq rfl <| A5 rfl <| Az rfl <| Al rfl <| Ae)) ?_
          refine Aa rfl (Bp (Ae) Ad rfl (by omega) (by omega)) ?_
          refine Bk rfl (B2 Be Db rfl (.cons (Ae) .nil) rfl rfl (by decide) (by simp [Value.oneCell']) fun b64 hb64 nb64 => ?_)
          refine B9 (i := 0) rfl hb64 .here fun F65 hF66 hz67 => ?_
          replace hFG := Heap.le_trans hFG hF66
          have hsl68 := C4 hz67
          refine Bk rfl (B4 Be el_3 (Ar rfl <| Al rfl <| Ae) ho (Ae) hsl68.srcInt (by simp only [List.length_singleton]; omega) (by simp only [List.length_singleton]; omega) (.s <| .z) .last fun v69 R70 ho71 => ?_)
          have ho2 := ho71.snoc (x := (k : Int) + 1) rfl rfl
          refine Aa rfl (Ac (Ae)) ?_
          refine Ah <| Bb <| Ab <| Ai fun ds => Aa rfl (Bp (Bq rfl <| A5 rfl <| A7 rfl <| Az rfl <| Al rfl <| As rfl hs62) Ad rfl (by omega) (by omega)) ?_
          refine Aa rfl (Ag (Ae)) ?_
          refine Ah <| Ab ⟨_, m - 1, Off.eq (ou32 rfl <| Cq rfl <| Di rfl <| Dy rfl <| Eb rfl <| Df rfl <| Ba), by omega, ?_⟩
          exact ⟨_, hFG, k + 1, by omega, (Ae), _, _, (Ar rfl <| Ae), by rw [readTo_succ, if_pos hrb]; exact ho2, rfl⟩
         ·
          replace hpl : decide (placeN (setS s x p ((k : Int) + 1)) l p = placeN s l p) = false := by simpa using hpl
          have hrb : readB s l x p k = false := by unfold readB; rw [hpl]; simp
          refine Ai fun ds => Aa rfl (A8 B5 (Bq rfl <| A5 rfl <| Ar rfl <| Ak rfl <| Bq rfl <| A7 rfl <| Ar rfl <| Al rfl <| Ae) rfl rfl (C1 hz11)) ?_
          refine Aa rfl (Ag (Bq rfl <| A5 rfl <| Ar rfl <| Al rfl <| Ak rfl <| Bq rfl <| A5 rfl <| Az rfl <| Ar rfl <| Aj rfl)) ?_
          refine B0 rfl (Bj bd_82 A1 (.cons (Bq rfl <| Az rfl <| Al rfl <| Ae) (.cons (Al rfl <| Ae) (.cons (Ae) .nil))) (D5 hXm ht (by rw [setS_len]; exact hll) hvm hp) (fun _ _ h => h)) ?_
          refine Aa rfl (Ag (Bq rfl <| A5 rfl <| Az rfl <| Al rfl <| Ak rfl <| A7 rfl <| Ar rfl <| Al rfl <| Ae)) ?_
          refine Aa rfl (Bx (Al rfl <| Ae) (Ae)) ?_
          refine Ah <| Ab <| Am (Ae) hpl ?_
          refine Au <| Bb <| Ab <| Ai fun ds => Aa rfl (Bp (Bq rfl <| A5 rfl <| Az rfl <| Ar rfl <| Al rfl <| As rfl hs62) Ad rfl (by omega) (by omega)) ?_
          refine Aa rfl (Ag (Ae)) ?_
          refine Ah <| Ab ⟨_, m - 1, Off.eq (ou32 rfl <| Cq rfl <| Di rfl <| Df rfl <| Ba), by omega, ?_⟩
          exact ⟨_, hFG, k + 1, by omega, (Ae), _, _, (Bq rfl <| A5 rfl <| A7 rfl <| Al rfl <| As rfl hs8), by rw [readTo_succ, if_neg (by rw [hrb]; simp)]; exact ho, rfl⟩
        ·
         have hrb : readB s l x p k = false := by unfold readB; rw [decide_eq_false (show ¬ s.r x p = 0 by omega), decide_eq_false (show ¬ s.r x p = (k : Int) + 1 by omega)]; rfl
         refine Aq (Ae) (by rw [er]; exact decide_eq_true hke) ?_
         refine Bn ?_
         refine Bd (Bf ?_)
         refine Ab <| Ai fun ds => Aa rfl (Bp (A7 rfl <| Ar rfl <| Al rfl <| As rfl hs62) Ad rfl (by omega) (by omega)) ?_
         refine Aa rfl (Ag (Ae)) ?_
         refine Ah <| Ab ⟨_, m - 1, Off.eq (Di rfl <| Dy rfl <| Df rfl <| Ba), by omega, ?_⟩
         exact ⟨_, hFG, k + 1, by omega, (Ae), _, _, (A7 rfl <| Az rfl <| Al rfl <| As rfl hs8), by rw [readTo_succ, if_neg (by rw [hrb]; simp)]; exact ho, rfl⟩
       ·
        have hkn : (decide (s.r x p = 0) || decide (s.r x p = (k : Int) + 1)) = true := by rw [decide_eq_true (show s.r x p = 0 by omega)]; rfl
        refine Au <| Ab <| Af <| A0 <| Af <| Ai fun ds => Aa rfl (Ag (Al rfl <| As rfl hs62)) ?_
        refine Aa rfl (Ac (Ae)) ?_
        refine Ah <| Ab <| Af <| Af <| Ai fun ds => Aa rfl (Ag (Ar rfl <| Al rfl <| Ak rfl <| Al rfl <| Ae)) ?_
        refine Aa rfl (Ds (Ae) Ad) ?_
        refine Aa rfl (Ag (Ae)) ?_
        refine Aw rfl rfl (Ae) (.inl (congrArg Value.bool (by rw [er]; exact decide_eq_false hk0))) rfl ?_
        refine Aw rfl rfl (Al rfl <| Ae) (.inl (congrArg Value.bool (by rw [er]; exact decide_eq_false hk0))) rfl ?_
        refine Aw rfl rfl (Ar rfl <| Ae) (.inl (congrArg Value.bool (by rw [er]; exact decide_eq_false hk0))) rfl ?_
        refine Aw rfl rfl (Ar rfl <| Al rfl <| Ae) (.inl (congrArg Value.bool (by rw [er]; exact decide_eq_false hk0))) rfl ?_
        refine Aa rfl (Bg (Az rfl <| Ae) (by rw [er]; exact decide_eq_false hk0) Ad) ?_
        refine Ah <| Ab <| Am (Ae) rfl ?_
        have hvm := setS_valid (v := (k : Int) + 1) hv hx hp (by omega)
        refine Au <| Ab <| Af <| Ai fun ds => Aa rfl (Ag (A7 rfl <| Ar rfl <| Al rfl <| Ak rfl <| Bq rfl <| A7 rfl <| Ar rfl <| Ae)) ?_
        refine Aa rfl (B3 (Ae)) ?_
        refine Aa rfl (A8 agg_128 (Ae) rfl rfl (C1 hX.blk)) ?_
        refine Bk rfl (Cd zr_128 rfl fun b72 hb72 nb72 => ?_)
        refine Ck (Ch sz_128 (Ae) (Al rfl <| Ae) (i := 0) rfl rfl rfl rfl hX.ones (.here) ?_)
        refine Ah <| Ab <| Af <| Ai fun ds => Aa rfl (Ag (A7 rfl <| Az rfl <| Ar rfl <| Al rfl <| Ak rfl <| Bq rfl <| A7 rfl <| Ar rfl <| Ae)) ?_
        refine Aa rfl (B3 (Ae)) ?_
        refine Aa rfl (Ao Ca (Ae)) ?_
        refine Aa rfl (Ao Bv (Ae)) ?_
        refine Aa rfl (Ap Bz (Ae) (CellF.own hX.blk rfl).cell) ?_
        refine Bk rfl (x_callNf bd_87 A1 (.cons (Ae) .nil) (cloneEd_own hX.r.eds hX.r.one (by omega)) fun v73 F74 R77 hr75 hF76 => ?_)
        replace hX := hX.mono hF76
        replace hrx := hrx.mono hF76
        replace hFG := Heap.le_trans hFG hF76
        replace hle0 := Heap.le_trans hle0 hF76
        replace hz11 := hF76 _ _ hz11
        have hoE := hr75
        refine Aa rfl (Ao Ca (Az rfl <| Ar rfl <| Ae)) ?_
        refine Aa rfl (Ao Bv (Ae)) ?_
        refine WL_orderB (.one (.skip <| .here) <| .one (.skip <| .here) <| .blk (.lastS) <| .lastb (.last)) ?_
        refine Ck (Cl sz_23 (Ae) (Ar rfl <| Ae) (i := 0) rfl (.next <| .here) (Own.one hoE) (.here) ?_)
        refine Ah <| Ab <| Af ?_
        have hleS := hle0
        refine Cu (.inl rfl) (fun _ _ h => h) (.cons_cons _ <| .cons_cons _ <| .refl _) [16] (by kernel_rfl) fun ds => ?_
        refine A2 0 rfl (by kernel_rfl) (by kernel_rfl) (by kernel_rfl) (by kernel_rfl) rfl rfl (fun _ h => h.drop (.cons_cons _ <| .cons_cons _ <| .refl _)) (fun _ _ _ h => h) (Ao Ca (A7 rfl <| Ae)) ?_
        refine A2 1 rfl (by kernel_rfl) (by kernel_rfl) (by kernel_rfl) (by kernel_rfl) rfl rfl (fun _ h => h.drop (.cons_cons _ <| .cons_cons _ <| .refl _)) (fun _ _ _ h => h) (Ao Bv (Ae)) ?_
        refine A2 2 rfl (by kernel_rfl) (by kernel_rfl) (by kernel_rfl) (by kernel_rfl) rfl rfl (fun _ h => h.drop (.cons_cons _ <| .cons_cons _ <| .refl _)) (fun _ _ _ h => h) (Ap Bz (Ae) (Cell.own 0 rfl rfl)) ?_
        refine A2 3 rfl (by kernel_rfl) (by kernel_rfl) (by kernel_rfl) (by kernel_rfl) rfl rfl (fun _ h => h.drop (.cons_cons _ <| .cons_cons _ <| .refl _)) (fun _ _ _ h => h) (Ag (A5 rfl <| A7 rfl <| Ar rfl <| Ak rfl <| Bq rfl <| A5 rfl <| Az rfl <| Ar rfl <| Aj rfl)) ?_
        refine A2 4 rfl (by kernel_rfl) (by kernel_rfl) (by kernel_rfl) (by kernel_rfl) rfl rfl (fun _ h => h.drop (.cons_cons _ <| .cons_cons _ <| .refl _)) (fun _ _ _ h => h) (Ag (A5 rfl <| A7 rfl <| Ar rfl <| Al rfl <| Ak rfl <| Bq rfl <| A7 rfl <| Ar rfl <| Ae)) ?_
        refine A2 5 rfl (by kernel_rfl) (by kernel_rfl) (by kernel_rfl) (by kernel_rfl) rfl rfl (fun _ h => h.drop (.cons_cons _ <| .cons_cons _ <| .refl _)) (fun _ _ _ h => h) (B3 (Ae)) ?_
        refine A2 6 rfl (by kernel_rfl) (by kernel_rfl) (by kernel_rfl) (by kernel_rfl) rfl rfl (fun _ h => h.drop (.cons_cons _ <| .cons_cons _ <| .refl _)) (fun _ _ _ h => h) (Ao Ca (Ae)) ?_
        refine A2 7 rfl (by kernel_rfl) (by kernel_rfl) (by kernel_rfl) (by kernel_rfl) rfl rfl (fun _ h => h.drop (.cons_cons _ <| .cons_cons _ <| .refl _)) (fun _ _ _ h => h) (Ao Bv (Ae)) ?_
        refine A2 8 rfl (by kernel_rfl) (by kernel_rfl) (by kernel_rfl) (by kernel_rfl) rfl rfl (fun _ h => h.drop (.cons_cons _ <| .cons_cons _ <| .refl _)) (fun _ _ _ h => h) (Ap Bz (Ae) (CellF.own hX.blk rfl).cell) ?_
        refine A2 9 rfl (by kernel_rfl) (by kernel_rfl) (by kernel_rfl) (by kernel_rfl) rfl rfl (fun _ h => h.drop (.cons_cons _ <| .cons_cons _ <| .refl _)) (fun _ _ _ h => h) (Ag (Bq rfl <| Ak rfl <| Bq rfl <| A5 rfl <| Az rfl <| Ar rfl <| Aj rfl)) ?_
        refine A2 10 rfl (by kernel_rfl) (by kernel_rfl) (by kernel_rfl) (by kernel_rfl) rfl rfl (fun _ h => h.drop (.cons_cons _ <| .cons_cons _ <| .refl _)) (fun _ _ _ h => h) (A9 (k := x) B7 (Al rfl <| Ae) hX.r.eds.plain (Ae) rfl hxp) ?_
        refine A2 11 rfl (by kernel_rfl) (by kernel_rfl) (by kernel_rfl) (by kernel_rfl) rfl rfl (fun _ h => h.drop (.cons_cons _ <| .cons_cons _ <| .refl _)) (fun _ _ _ h => h) (Bt Cf (Ae)) ?_
        refine A2 12 rfl (by kernel_rfl) (by kernel_rfl) (by kernel_rfl) (by kernel_rfl) rfl rfl (fun _ h => h.drop (.cons_cons _ <| .cons_cons _ <| .refl _)) (fun _ _ _ h => h) (Ap B8 (Ae) (hX.r.eds.cell hxp rfl)) ?_
        refine Dr 13 rfl (by kernel_rfl) rfl (x_callNf bd_76 A1 (.cons (Ae) .nil) (cloneInt_own hrx (by omega)) fun v78 F79 R82 hr80 hF81 => ⟨fun _ _ _ h => (h.drop (List.sublist_append_of_sublist_right <| .cons_cons _ <| .cons_cons _ <| .refl _)).weak hF81 hleS, ?_⟩)
        replace hX := hX.mono hF81
        replace hFG := Heap.le_trans hFG hF81
        replace hz11 := hF81 _ _ hz11
        have hoR := hr80
        refine A2 14 rfl (by kernel_rfl) (by kernel_rfl) (by kernel_rfl) (by kernel_rfl) rfl rfl (fun _ h => (h.drop (List.sublist_append_of_sublist_right <| .cons_cons _ <| .cons_cons _ <| .refl _)).weak hF81 hleS) (fun _ _ _ h => h) (A9 (k := x) B7 (A7 rfl <| Ar rfl <| Al rfl <| Ae) (hoE.plain (by omega)) (A7 rfl <| Ar rfl <| Ae) rfl hxp) ?_
        refine A2 15 rfl (by kernel_rfl) (by kernel_rfl) (by kernel_rfl) (by kernel_rfl) rfl rfl (fun _ h => (h.drop (List.sublist_append_of_sublist_right <| .cons_cons _ <| .cons_cons _ <| .refl _)).weak hF81 hleS) (fun _ _ _ h => h) (Bt Cf (Ae)) ?_
        refine WX_orderB (.one (.skip <| .here) <| .one (.skip <| .here) <| .blk (.skip <| .here) <| .blk (.lastS) <| .lastb (.last)) ?_
        refine WX_x0 16 rfl (by kernel_rfl) (x_storeR sz_26 (Ae) (Ar rfl <| Ae) hoE (by rw [Ey edE_len]; omega) (Own.one hoR) (.s <| .s <| .k <| .z) .more fun R83 ho84 => ⟨(fun h => nomatch h), ?_⟩)
        have hoE2 := ed_own_set (e := (s.ed x).setR p ((k : Int) + 1)) ho84 hxp (by rw [e1]; rfl) (by rw [e1]; rfl) (by rw [e1]; rfl)
        refine Cr (by kernel_rfl) ?_ _
        refine Ab <| Af <| Ai fun ds => Aa rfl (Ao Ca (A5 rfl <| A7 rfl <| Ae)) ?_
        refine Aa rfl (Ao Bv (Ae)) ?_
        refine Aa rfl (Ap Bz (Ae) (Cell.own 0 rfl rfl)) ?_
        refine Aa rfl (Ag (Bq rfl <| A7 rfl <| Ar rfl <| Ak rfl <| Bq rfl <| A5 rfl <| Az rfl <| Ar rfl <| Aj rfl)) ?_
        refine Aa rfl (A9 (k := x) B7 (Al rfl <| Ae) (hoE2.plain (by rw [List.length_set]; omega)) (Ae) rfl (by simp; omega)) ?_
        refine Aa rfl (Bt Cf (Ae)) ?_
        refine Aa rfl (Ap B8 (Ae) (Dx hoE2 (fun p hp => .tail _ (.tail _ (List.mem_append_right _ (List.mem_append_left _ hp)))) (ed_set_get hxp))) ?_
        refine Aa rfl (Ag (Bq rfl <| A7 rfl <| Az rfl <| Ar rfl <| Ak rfl <| Bq rfl <| A5 rfl <| Az rfl <| Ar rfl <| Aj rfl)) ?_
        refine Aa rfl (Ag (Bq rfl <| A7 rfl <| Az rfl <| Ae)) ?_
        refine Aa rfl (Bp (Ae) Ad rfl (by omega) (by omega)) ?_
        refine Aa rfl (A9 (k := p) Be (Ar rfl <| Al rfl <| Ae) (hoR.plain (by omega)) (Ar rfl <| Ae) rfl hpx) ?_
        refine Ck (x_storeR sz_3 (Ae) (Al rfl <| Ae) hoR (by rw [Ey (enc := intE) (s := 1) (fun _ => rfl)]; omega) rfl (.s <| .s <| .k <| .k <| .z) .last fun R85 ho86 => ?_)
        have hoR2 := ho86
        rw [show p * 1 = p * 1 + 0 from rfl, int_flat_set hpx] at hoR2
        replace hoR2 := hoR2.to (k' := ((s.ed x).rd.set p ((k : Int) + 1)).length) (by simp)
        refine Ah <| Ab <| Af <| Cn (σ := ⟨_, _⟩) (by rfl) hoR2 (.s <| .s <| .k <| .k <| .z) .last fun F87 hF88 hz89 => ?_
        replace hX := hX.mono hF88
        replace hFG := Heap.le_trans hFG hF88
        replace hz11 := hF88 _ _ hz11
        refine WC_pickB (.one (.here) <| .one (.here) <| .blk (.here) <| .lastb (.here)) ?_
        have hrn := hoR2.sl (fun _ => rfl) hz89 (by simp; omega)
        refine Cn (σ := ⟨_, _⟩) (by rfl) hoE2 (.s <| .s <| .k <| .z) .last fun F90 hF91 hz92 => ?_
        replace hX := hX.mono hF91
        replace hFG := Heap.le_trans hFG hF91
        replace hrn := hrn.mono hF91
        replace hz11 := hF91 _ _ hz11
        refine WC_pickB (.one (.here) <| .one (.here) <| .lastb (.here)) ?_
        have hen := hoE2.sl (fun _ => rfl) hz92 (by simp; omega)
        refine Cg (i := 0) rfl hb72 (.here) fun F93 hF94 hz15 => ?_
        replace hX := hX.mono hF94
        replace hFG := Heap.le_trans hFG hF94
        replace hrn := hrn.mono hF94
        replace hen := hen.mono hF94
        replace hz11 := hF94 _ _ hz11
        have hXm : StmX _ _ _ _ _ _ (setS s x p ((k : Int) + 1)) := ⟨hX.r.set hen hrn, hz15⟩
        by_cases hpl : decide (placeN (setS s x p ((k : Int) + 1)) l p = placeN s l p) = true
        ·
         have hrb : readB s l x p k = true := by unfold readB; rw [hkn, hpl]; rfl
         refine Ai fun ds => Aa rfl (A8 B5 (Bq rfl <| A5 rfl <| Ar rfl <| Ak rfl <| Bq rfl <| A7 rfl <| Ar rfl <| Al rfl <| Ae) rfl rfl (C1 hz11)) ?_
         refine Aa rfl (Ag (Bq rfl <| A5 rfl <| Ar rfl <| Al rfl <| Ak rfl <| Bq rfl <| A5 rfl <| Az rfl <| Ar rfl <| Aj rfl)) ?_
         refine B0 rfl (Bj bd_82 A1 (.cons (Bq rfl <| Az rfl <| Al rfl <| Ae) (.cons (Al rfl <| Ae) (.cons (Ae) .nil))) (D5 hXm ht (by rw [setS_len]; exact hll) hvm hp) (fun _ _ h => h)) ?_
         refine Aa rfl (Ag (Bq rfl <| A5 rfl <| Az rfl <| Al rfl <| Ak rfl <| A7 rfl <| Ar rfl <| Al rfl <| Ae)) ?_
         refine Aa rfl (Bx (Al rfl <| Ae) (Ae)) ?_
         refine Ah <| Ab <| Aq (Ae) hpl ?_
         refine Ai fun ds => Aa rfl (Ag (Bq rfl <| A5 rfl <| Az rfl <| Ar rfl <| Al rfl <| As rfl hs8)) ?_
         refine Aa rfl (Ag (Bq rfl <| A5 rfl <| Az rfl <| Al rfl <| Ae)) ?_
         refine Aa rfl (Bp (Ae) Ad rfl (by omega) (by omega)) ?_
         refine Bk rfl (B2 Be Db rfl (.cons (Ae) .nil) rfl rfl (by decide) (by simp [Value.oneCell']) fun b95 hb95 nb95 => ?_)
         refine B9 (i := 0) rfl hb95 .here fun F96 hF97 hz98 => ?_
         replace hFG := Heap.le_trans hFG hF97
         have hsl99 := C4 hz98
         refine Bk rfl (B4 Be el_3 (Ar rfl <| Al rfl <| Ae) ho (Ae) hsl99.srcInt (by simp only [List.length_singleton]; omega) (by simp only [List.length_singleton]; omega) (.s <| .z) .last fun v100 R101 ho102 => ?_)
         have ho2 := ho102.snoc (x := (k : Int) + 1) rfl rfl
         refine Aa rfl (Ac (Ae)) ?_
         refine Ah <| Bb <| Ab <| Ai fun ds => Aa rfl (Bp (Bq rfl <| A5 rfl <| A7 rfl <| Az rfl <| Al rfl <| As rfl hs62) Ad rfl (by omega) (by omega)) ?_
         refine Aa rfl (Ag (Ae)) ?_
         refine Ah <| Ab ⟨_, m - 1, Off.eq (ou32 rfl <| Cq rfl <| Di rfl <| Dy rfl <| Eb rfl <| Df rfl <| Ba), by omega, ?_⟩
         exact ⟨_, hFG, k + 1, by omega, (Ae), _, _, (Ar rfl <| Ae), by rw [readTo_succ, if_pos hrb]; exact ho2, rfl⟩
        ·
         replace hpl : decide (placeN (setS s x p ((k : Int) + 1)) l p = placeN s l p) = false := by simpa using hpl
         have hrb : readB s l x p k = false := by unfold readB; rw [hpl]; simp
         refine Ai fun ds => Aa rfl (A8 B5 (Bq rfl <| A5 rfl <| Ar rfl <| Ak rfl <| Bq rfl <| A7 rfl <| Ar rfl <| Al rfl <| Ae) rfl rfl (C1 hz11)) ?_
         refine Aa rfl (Ag (Bq rfl <| A5 rfl <| Ar rfl <| Al rfl <| Ak rfl <| Bq rfl <| A5 rfl <| Az rfl <| Ar rfl <| Aj rfl)) ?_
         refine B0 rfl (Bj bd_82 A1 (.cons (Bq rfl <| Az rfl <| Al rfl <| Ae) (.cons (Al rfl <| Ae) (.cons (Ae) .nil))) (D5 hXm ht (by rw [setS_len]; exact hll) hvm hp) (fun _ _ h => h)) ?_
         refine Aa rfl (Ag (Bq rfl <| A5 rfl <| Az rfl <| Al rfl <| Ak rfl <| A7 rfl <| Ar rfl <| Al rfl <| Ae)) ?_
         refine Aa rfl (Bx (Al rfl <| Ae) (Ae)) ?_
         refine Ah <| Ab <| Am (Ae) hpl ?_
         refine Au <| Bb <| Ab <| Ai fun ds => Aa rfl (Bp (Bq rfl <| A5 rfl <| Az rfl <| Ar rfl <| Al rfl <| As rfl hs62) Ad rfl (by omega) (by omega)) ?_
         refine Aa rfl (Ag (Ae)) ?_
         refine Ah <| Ab ⟨_, m - 1, Off.eq (ou32 rfl <| Cq rfl <| Di rfl <| Df rfl <| Ba), by omega, ?_⟩
         exact ⟨_, hFG, k + 1, by omega, (Ae), _, _, (Bq rfl <| A5 rfl <| A7 rfl <| Al rfl <| As rfl hs8), by rw [readTo_succ, if_neg (by rw [hrb]; simp)]; exact ho, rfl⟩
      ·
       refine Af <| Ai fun ds => Aa rfl (Br (As rfl hs62) Ad) ?_
       refine Ah <| Ab <| Af <| Am (Ae) (by first | rfl | exact decide_eq_false (by omega)) ?_
       obtain rfl : k = 3 := by omega
       refine Cn (σ := ⟨_, _⟩) (by rfl) ho (.s <| .z) .last fun F103 hF104 hz105 => ?_
       have hn8 := ho.sl (fun _ => rfl) hz105 (by have := readTo_len (s := s) (l := l) (x := x) (p := p) (k := 3); omega)
       refine Bn ?_
       refine Bd <| Bd <| Bf <| Ab <| Af <| Ai fun ds => Aa rfl (Ag (Al rfl <| As rfl hs8)) ?_
       refine Aa rfl (Ac (Ae)) ?_
       refine Aa rfl (Ac Ad) ?_
       refine Ah <| Ab <| A4 <| Ay rfl (.tmp (Al rfl <| Ae) (.tmp (Ae) .nil)) ?_
       rw [readE_ok hre, Int.toNat_natCast, Int.toNat_natCast]
       exact ⟨_, rfl, hn8⟩
   ·
    replace h2 : inB 0 (s.places.length - 1) q = false := by simpa using h2
    refine Aq (Ae) (by simp [h2]) ?_
    refine Af <| Ai fun ds => Aa rfl (Ac Ad) ?_
    refine Aa rfl (Ac Ad) ?_
    refine Ah <| Ab <| A4 <| Bm (Bc ?_)
    refine Ay rfl (.tmp (Al rfl <| Ae) (.tmp (Ae) .nil)) ?_
    rw [readE_bad (readErr_2 hok (by rw [h1, h2]; rfl)) (by decide)]
    exact ⟨_, rfl, Sl.nil⟩
  ·
   replace h1 : inB 0 (s.editions.length - 1) z = false := by simpa using h1
   refine Af <| Ai fun ds => Aa rfl (Ao Bv (A7 rfl <| Az rfl <| Ar rfl <| Al rfl <| Ae)) ?_
   refine Aa rfl (Ap Bz (Ae) (CellF.own hz4 rfl).cell) ?_
   refine Aa rfl (Bh B7 (Ae) hr.eds.plain) ?_
   refine Aa rfl (Ew (Ae) Ad rfl (by omega) (by omega)) ?_
   refine Aa rfl (Ag (A5 rfl <| Az rfl <| Aj rfl)) ?_
   refine Bk rfl (B2 Be Db rfl (.cons (Ae) .nil) rfl rfl (by decide) (by simp [Value.oneCell']) fun b106 hb106 nb106 => ?_)
   refine B9 (i := 0) rfl hb106 .here fun F107 hF108 hz109 => ?_
   have hsl110 := C4 hz109
   refine B0 rfl (Bj Ec A1 (.cons Ad (.cons (Ar rfl <| Ae) (.cons (Ae) .nil))) (Ci _ _ hsl110) (fun _ _ h => h)) ?_
   refine Aa rfl (Ag (Ae)) ?_
   refine Aw rfl rfl (Ae) (.inl (congrArg Value.bool (by simp [hlen, h1]))) rfl ?_
   refine Aw rfl rfl (Al rfl <| Ae) (.inl (congrArg Value.bool (by simp [hlen, h1]))) rfl ?_
   refine Aw rfl rfl (Ar rfl <| Ae) (.inl (congrArg Value.bool (by simp [hlen, h1]))) rfl ?_
   refine Aw rfl rfl (Ar rfl <| Al rfl <| Ae) (.inl (congrArg Value.bool (by simp [hlen, h1]))) rfl ?_
   refine Aw rfl rfl (Az rfl <| Ae) (.inl (congrArg Value.bool (by simp [hlen, h1]))) rfl ?_
   refine Aw rfl rfl (Az rfl <| Al rfl <| Ae) (.inl (congrArg Value.bool (by simp [hlen, h1]))) rfl ?_
   refine Aw rfl rfl (Az rfl <| Ar rfl <| Ae) (.inl (congrArg Value.bool (by simp [hlen, h1]))) rfl ?_
   refine Aa rfl (A6 (Az rfl <| Ar rfl <| Al rfl <| Ae) (by simp [hlen, h1]) Ad) ?_
   refine Aa rfl (Ac (Ae)) ?_
   refine Ah <| Ab <| Aq (Ae) rfl ?_
   refine Af <| Ai fun ds => Aa rfl (Ac Ad) ?_
   refine Aa rfl (Ac Ad) ?_
   refine Ah <| Ab <| A4 <| Bm (Bc ?_)
   refine Ay rfl (.tmp (Al rfl <| Ae) (.tmp (Ae) .nil)) ?_
   rw [readE_bad (readErr_2 hok (by rw [h1]; rfl)) (by decide)]
   exact ⟨_, rfl, Sl.nil⟩
 ·
  refine Af <| Ai fun ds => Bk rfl (B1 (Aj rfl) rfl fun b111 hb111 nb111 => ?_)
  refine Aa rfl (Ac Ad) ?_
  refine Aa rfl (Ac Ad) ?_
  refine Ah <| Ab <| Af <| Ai fun ds => Aa rfl (A8 Bw (Ar rfl <| Ae) rfl rfl (A3 0 rfl)) ?_
  refine Aa rfl (Ag (Az rfl <| Aj rfl)) ?_
  refine Bk rfl (B6 bd_68 A1 (.cons (Al rfl <| Ae) (.cons (Ae) .nil)) (enter_bad hr hl hok) fun v112 F113 hr114 hF115 => ?_)
  obtain ⟨l2, rfl⟩ := hr114
  refine Aa rfl (Ag (Ae)) ?_
  refine Aa rfl (Ax (Ae) rfl) ?_
  refine Aa rfl (Ax (Al rfl <| Ae) rfl) ?_
  refine Aa rfl (Ax (Ar rfl <| Ae) rfl) ?_
  refine Bk rfl (Cd Ea rfl fun b116 hb116 nb116 => ?_)
  refine Aa rfl (Ac (Ar rfl <| Al rfl <| Ae)) ?_
  refine Ck (Ch Ei (Al rfl <| Ae) (Ar rfl <| Al rfl <| Ae) (i := 0) rfl rfl rfl rfl Dg (.here) ?_)
  refine Aa rfl (Ac (Ar rfl <| Ae)) ?_
  refine Ah <| Ab <| Af <| A0 <| Af <| Ai fun ds => Aa rfl (Ag (Ae)) ?_
  refine Aa rfl (By (Ae) Ad) ?_
  refine Aa rfl (Ac (Ae)) ?_
  refine Ah <| Ab <| Aq (Ae) (decide_eq_true hok) ?_
  refine Af <| Ai fun ds => Aa rfl (Ag (Ar rfl <| Al rfl <| Ae)) ?_
  refine Aa rfl (Ac Ad) ?_
  refine Aa rfl (Ac (Al rfl <| Ae)) ?_
  refine Ah <| Ab <| A4 <| Bm (Bc ?_)
  refine Ay rfl (.tmp (Al rfl <| Ae) (.tmp (Ae) .nil)) ?_
  rw [readE_bad (readErr_1 hok) hok]
  exact ⟨_, rfl, Sl.nil⟩
end Go.Proofs.Ytccogmkhijgelaa
namespace Go.Proofs.Ytccogmkhijgelaa
open Go.RowKit
theorem zr_119 : ZeroT Try.prog 119 (.nilFunc) := Dc (by kernel_rfl)
theorem zr_26 : ZeroT Try.prog 26 (.slice none 0 0) := Dc (by kernel_rfl)
theorem zr_4 : ZeroT Try.prog 4 (.bool false) := Dc (by kernel_rfl)
theorem bd_84 : Body Try.prog 84 := Bo (by kernel_rfl)
theorem one_119 : OneT Try.prog 119 := D7 (by kernel_rfl)
theorem one_4 : OneT Try.prog 4 := D7 (by kernel_rfl)
theorem sz_119 : SizeT Try.prog 119 1 := C0 (by kernel_rfl)
theorem sz_4 : SizeT Try.prog 4 1 := C0 (by kernel_rfl)
theorem setTo_succ {s : Stm} {p k : Nat} : setTo s p (k + 1) = setTo s p k ||| 2 ^ (s.r k p).toNat := rfl
theorem kindTo_succ {s : Stm} {p k : Nat} : kindTo s p (k + 1) = kindTo s p k + if metB s p (k + 1) = true then 1 else 0 := rfl
theorem cleanS_none {s : Stm} {xs : List (List Int)} {t : List Int} (h : cleanR s xs = none) : cleanR s (xs ++ [t]) = some (uncleanL s t) := by rw [cleanR_snoc, h]; rfl
theorem cleanS_yes {s : Stm} {xs : List (List Int)} {t : List Int} {b : List Nat} (h : cleanR s xs = some b) (h2 : (uncleanL s t).length < b.length ∨ ((uncleanL s t).length = b.length ∧ cmpL (uncleanL s t) b < 0)) : cleanR s (xs ++ [t]) = some (uncleanL s t) := by rw [cleanR_snoc, h]; exact if_pos h2
theorem cleanS_no {s : Stm} {xs : List (List Int)} {t : List Int} {b : List Nat} (h : cleanR s xs = some b) (h2 : ¬ ((uncleanL s t).length < b.length ∨ ((uncleanL s t).length = b.length ∧ cmpL (uncleanL s t) b < 0))) : cleanR s (xs ++ [t]) = some b := by rw [cleanR_snoc, h]; exact if_neg h2
theorem bit_met {s : Stm} {p j : Nat} (hv : ValidT s) (hp : p < s.places.length) : (setTo s p s.editions.length / 2 ^ (j + 1) &&& 1 : Nat) = if metB s p (j + 1) = true then 1 else 0 := by
 have h := setTo_bit (v := j + 1) (fun i hi => (hv.rd i p hi hp).1) (Nat.le_refl s.editions.length)
 rw [Nat.testBit_eq_decide_div_mod_eq] at h
 rw [Nat.and_one_is_mod]
 unfold metB
 rw [← h]
 by_cases h2 : setTo s p s.editions.length / 2 ^ (j + 1) % 2 = 1
 · rw [if_pos (decide_eq_true h2)]; exact h2
 · rw [if_neg (by simpa using h2)]; omega
theorem opt_or {α : Type} (o : Option α) : o = none ∨ ∃ b, o = some b := by cases o with | none => exact .inl rfl | some b => exact .inr ⟨b, rfl⟩
theorem pow_le8T {n : Nat} (h : n ≤ 3) : 2 ^ n ≤ 8 := by
 have : n = 0 ∨ n = 1 ∨ n = 2 ∨ n = 3 := by omega
 rcases this with rfl | rfl | rfl | rfl <;> decide
set_option maxRecDepth 100000 in
theorem clean_top_ok {F : Heap} {vp ve : Value} {ps : List (Value × Edn)} {s : Stm} (hr : StmR F vp ve ps s) : Ok Try.prog 33 [.agg #[vp, ve]].toArray F fun u F' => NatsR F' u (cleanE s) := by
 have hle0 : F.le F := Heap.le_refl _
 refine Ok.intro Try.func33 rfl Try.ntmps33 rfl fun w0 => ?_
 have hL1 := hr.eds.plain.lt
 have hL2 := hr.places.plain.lt
 have hlen := hr.len
 by_cases h0 : (checkT s).2.2 = 0
 ·
  have hv := C9 h0
  have hne := hv.ne
  have hnp := hv.np
  refine Af <| Ai fun ds => Bk rfl (B1 (Aj rfl) rfl fun b1 hb1 nb1 => ?_)
  refine Bk rfl (Cd zr_26 rfl fun b2 hb2 nb2 => ?_)
  refine Aa rfl (Ac Ad) ?_
  refine Ah <| Ab <| Af <| Ai fun ds => Aa rfl (A8 Bw (Ar rfl <| Ae) rfl rfl (A3 1 rfl)) ?_
  refine Bk rfl (Dz bd_65 A1 (.cons (Ae) .nil) (open_ok hr h0) fun v3 F4 R7 hr5 hF6 => ?_)
  replace hr := hr.mono hF6
  obtain ⟨ba, kb, rfl, hX, rfl⟩ := hr5
  refine Aa rfl (Ag (Ae)) ?_
  refine Aa rfl (Ax (Ae) rfl) ?_
  refine Aa rfl (Ax (Al rfl <| Ae) rfl) ?_
  refine Aa rfl (Ac (Al rfl <| Ae)) ?_
  refine Aa rfl (Ac (Al rfl <| Ae)) ?_
  refine Ah <| Ab <| Af <| Af <| Ai fun ds => Aa rfl (Ag (Ae)) ?_
  refine Aa rfl (By (Ae) Ad) ?_
  refine Ah <| Ab <| Am (Ae) (by decide) ?_
  refine Au <| Ab <| Af <| Ai fun ds => Bk rfl (Cd zr_26 rfl fun b8 hb8 nb8 => ?_)
  refine Ah <| Ab <| Af <| Af <| Ai fun ds => Aa rfl (Ao Co (A7 rfl <| Az rfl <| Ae)) ?_
  refine Aa rfl (Ap C2 (Ae) (Cell.own 2 rfl rfl)) ?_
  refine Aa rfl (Bh Da (Ae) hr.places.plain) ?_
  refine Aa rfl (Ag Ad) ?_
  refine Ah <| Ab <| A0 <| Bs [6, 7, 9, 10, 11, 29, 30, 31, 32, 33, 34, 35, 36, 37, 38, 39, 40, 41, 42, 43, 44, 45, 46, 47, 48, 49, 50, 51, 52, 53, 54, 55, 56, 57, 58, 59, 60, 61, 62, 63, 64] (fun m e σ => ∃ p : Nat, m + p = s.places.length ∧ e 29 = .int .i64 (p : Int) ∧ ∃ v5 R5, Own 3 1 v5 (iL (needN s) p).length ((iL (needN s) p).flatMap intE) R5 ∧ σ = ⟨F4, (b8, bx 26 [v5]) :: (b2, bx 26 [.slice none 0 0]) :: (b1, bx 25 [vp, ve]) :: (kb, mapO []) :: R5⟩) (s.places.length) ?_ ?_
  · exact ⟨0, by omega, (Ae), _, [], Ef, rfl⟩
  ·
   rintro m e _ ⟨p, hm, hs29, v5, R5, ho, rfl⟩; have hil9 := C5 (f := needN s) (n := p)
   by_cases hp : p < s.places.length
   ·
    refine Af <| Ai fun ds => Aa rfl (Br (As rfl hs29) (Ak rfl <| Al rfl <| Ae)) ?_
    refine Ah <| Ab <| Af <| Aq (Ae) (by first | rfl | exact decide_eq_true (by omega)) ?_
    refine Au <| Ab <| Af <| A0 <| Af <| Ai fun ds => Aa rfl (Ag (Al rfl <| As rfl hs29)) ?_
    refine Aa rfl (Ac (Ae)) ?_
    refine Ah <| Ab <| Af <| Ai fun ds => Aa rfl (Ac Ad) ?_
    refine Ah <| Ab <| Af <| Af <| Ai fun ds => Aa rfl (Ao Bv (Az rfl <| Ak rfl <| A5 rfl <| Ae)) ?_
    refine Aa rfl (Ap Bz (Ae) (Cell.own 2 rfl rfl)) ?_
    refine Aa rfl (Bh B7 (Ae) hr.eds.plain) ?_
    refine Aa rfl (Ag Ad) ?_
    refine Ah <| Ab <| A0 <| Bs [7, 9, 35, 36, 37, 38, 39, 40, 41, 42, 43, 44, 45, 46, 47] (fun m e σ => ∃ i : Nat, m + i = ps.length ∧ e 35 = .int .i64 (i : Int) ∧ e 7 = .int .i64 ((setTo s p i : Nat) : Int) ∧ σ = ⟨F4, (b8, bx 26 [v5]) :: (b2, bx 26 [.slice none 0 0]) :: (b1, bx 25 [vp, ve]) :: (kb, mapO []) :: R5⟩) (ps.length) ?_ ?_
    · exact ⟨0, by omega, (Ae), (Az rfl <| Ae), rfl⟩
    ·
     rintro m1 e1 _ ⟨i, hm1, ht35, ht7, rfl⟩
     by_cases hli : i < ps.length
     ·
      have hil : i < s.editions.length := by omega
      have hri := hr.rd hli
      have hpi : p < (s.ed i).rd.length := by rw [hv.rdl i hil]; exact hp
      have er := rdT_at hpi
      have hrb := hv.rd i p hil hp
      have hst := setTo_lt (s := s) (p := p) (fun i hi => hv.rd i p hi hp) (k := i) (by omega)
      have hp8 := pow_le8T (n := (s.r i p).toNat) (by omega)
      refine Af <| Ai fun ds => Aa rfl (Br (As rfl ht35) (Ak rfl <| Al rfl <| Ae)) ?_
      refine Ah <| Ab <| Af <| Aq (Ae) (by first | rfl | exact decide_eq_true (by omega)) ?_
      refine Au <| Ab <| Af <| A0 <| Af <| Ai fun ds => Aa rfl (A9 (k := i) B7 (Al rfl <| Ak rfl <| Ar rfl <| Ae) hr.eds.plain (Al rfl <| As rfl ht35) rfl hli) ?_
      refine Aa rfl (A8 agg_64 (Ae) rfl rfl (hr.eds.whole hli)) ?_
      refine Bk rfl (Cd zr_64 rfl fun b11 hb11 nb11 => ?_)
      refine Ck (Ch sz_64 (Ae) (Al rfl <| Ae) (i := 0) rfl rfl rfl rfl (edE_one (hr.one _ (List.getElem_mem hli))) (.here) ?_)
      refine Ah <| Ab <| Ai fun ds => Aa rfl (Ag (Az rfl <| As rfl ht7)) ?_
      refine Aa rfl (Ao Cf (Al rfl <| Ae)) ?_
      refine Aa rfl (Ap B8 (Ae) (Cell.own 0 rfl rfl)) ?_
      refine Aa rfl (Ag (Az rfl <| Ar rfl <| Al rfl <| Ak rfl <| Az rfl <| Al rfl <| Ae)) ?_
      refine Aa rfl (A9 (k := p) Be (Al rfl <| Ae) hri.plain (Ae) rfl hpi) ?_
      refine Aa rfl (Ap Bl (Ae) (hri.cell1 hpi rfl)) ?_
      refine Aa rfl (q_shl Ad (Ae) (k := (s.r i p).toNat) (by rw [er]; omega) (by omega) (show (1 : Int) * 2 ^ (s.r i p).toNat = ((2 ^ (s.r i p).toNat : Nat) : Int) by simp) (Int.le_trans (by decide) (Int.natCast_nonneg _)) (by omega)) ?_
      refine Aa rfl (q_or (Az rfl <| Ar rfl <| Ae) (Ae) (m := setTo s p i) (k := 2 ^ (s.r i p).toNat) rfl rfl (by omega) (by omega) rfl) ?_
      refine Aa rfl (Ac (Ae)) ?_
      refine Ah <| Bb <| Ab <| Cz (fun _ _ h => h.drop (.cons _ <| .cons_cons _ <| .cons_cons _ <| .cons_cons _ <| .cons_cons _ <| .refl _)) ?_
      refine Ai fun ds => Aa rfl (Bp (A7 rfl <| Az rfl <| Al rfl <| As rfl ht35) Ad rfl (by omega) (by omega)) ?_
      refine Aa rfl (Ag (Ae)) ?_
      refine Ah <| Ab ⟨_, m1 - 1, Off.eq (Di rfl <| Dy rfl <| Eb rfl <| Df rfl <| Ba), by omega, ?_⟩
      exact ⟨i + 1, by omega, (Ae), ((Ar rfl <| Ae)).trans (by rw [setTo_succ]), rfl⟩
     ·
      refine Af <| Ai fun ds => Aa rfl (Br (As rfl ht35) (Ak rfl <| Al rfl <| Ae)) ?_
      refine Ah <| Ab <| Af <| Am (Ae) (by first | rfl | exact decide_eq_false (by omega)) ?_
      obtain rfl : i = ps.length := by omega
      have hst := setTo_lt (s := s) (p := p) (fun i hi => hv.rd i p hi hp) (k := ps.length) (by omega)
      refine Bn ?_
      refine Bd <| Bd <| Bf <| Ab <| Af <| Ai fun ds => Aa rfl (Ac Ad) ?_
      refine Ah <| Ab <| Af <| Af <| Ai fun ds => Aa rfl (Ag Ad) ?_
      refine Ah <| Ab <| A0 <| Bs [10, 11, 48, 49, 50, 51, 52, 53, 54, 55, 56, 57, 58] (fun m e σ => ∃ j : Nat, m + j = 3 ∧ e 48 = .int .i64 (j : Int) ∧ e 10 = .int .i64 (-1 + kindTo s p j) ∧ σ = ⟨F4, (b8, bx 26 [v5]) :: (b2, bx 26 [.slice none 0 0]) :: (b1, bx 25 [vp, ve]) :: (kb, mapO []) :: R5⟩) (3) ?_ ?_
      · exact ⟨0, rfl, (Ae), (Al rfl <| Ae), rfl⟩
      ·
       rintro m2 e2 _ ⟨j, hm2, hu48, hu10, rfl⟩
       by_cases hl3 : j < 3
       ·
        have hkb := D8 (s := s) (p := p) j
        have hbt : (setTo s p ps.length / 2 ^ (j + 1) &&& 1 : Nat) = (if metB s p (j + 1) = true then 1 else 0 : Nat) := by have h9 := bit_met (j := j) hv hp; rw [← hlen] at h9; exact h9
        refine Af <| Ai fun ds => Aa rfl (Br (As rfl hu48) Ad) ?_
        refine Ah <| Ab <| Af <| Aq (Ae) (by first | rfl | exact decide_eq_true (by omega)) ?_
        refine Au <| Ab <| Af <| A0 <| Af <| Ai fun ds => Aa rfl (Ag (Al rfl <| As rfl hu48)) ?_
        refine Aa rfl (Ac (Ae)) ?_
        refine Ah <| Ab <| Ai fun ds => Aa rfl (Ag (Ar rfl <| Al rfl <| As rfl hu10)) ?_
        refine Aa rfl (Ag (Az rfl <| Ak rfl <| Ar rfl <| Al rfl <| As rfl ht7)) ?_
        refine Aa rfl (Ag (Ar rfl <| Ae)) ?_
        refine Aa rfl (Bp (Ae) Ad rfl (by omega) (by omega)) ?_
        refine Aa rfl (q_shr (Ar rfl <| Ae) (Ae) (k := j + 1) (by omega) (by show j + 1 < 64; omega) (shr_nat (m := setTo s p ps.length))) ?_
        refine Aa rfl (q_and (Ae) Ad (m := setTo s p ps.length / 2 ^ (j + 1)) (k := 1) rfl rfl (by have := Nat.div_le_self (setTo s p ps.length) (2 ^ (j + 1)); omega) (by omega) rfl) ?_
        refine Aa rfl (Bp (Az rfl <| Al rfl <| Ae) (Ae) rfl (by rw [hbt]; split <;> omega) (by rw [hbt]; split <;> omega)) ?_
        refine Aa rfl (Ac (Ae)) ?_
        refine Ah <| Bb <| Ab <| Ai fun ds => Aa rfl (Bp (A7 rfl <| Ar rfl <| Al rfl <| As rfl hu48) Ad rfl (by omega) (by omega)) ?_
        refine Aa rfl (Ag (Ae)) ?_
        refine Ah <| Ab ⟨_, m2 - 1, Off.eq (Di rfl <| Dy rfl <| Df rfl <| Ba), by omega, ?_⟩
        refine ⟨j + 1, by omega, (Ae), ((Ar rfl <| Ae)).trans ?_, rfl⟩
        rw [kindTo_succ, hbt]; congr 1; split <;> omega
       ·
        refine Af <| Ai fun ds => Aa rfl (Br (As rfl hu48) Ad) ?_
        refine Ah <| Ab <| Af <| Am (Ae) (by first | rfl | exact decide_eq_false (by omega)) ?_
        obtain rfl : j = 3 := by omega
        have hkb := D8 (s := s) (p := p) 3
        refine Bn ?_
        refine Bd <| Bd <| Bf <| Ab <| Ai fun ds => Aa rfl (Ap B8 (Al rfl <| Ak rfl <| Ar rfl <| Al rfl <| Ak rfl <| A7 rfl <| Ak rfl <| Az rfl <| Ae) (Cell.own 0 rfl rfl)) ?_
        refine Aa rfl (Ag (Ar rfl <| As rfl hu10)) ?_
        refine Aa rfl (q_max2 Ad (Ae)) ?_
        refine Bk rfl (B2 Be Db rfl (.cons (Ae) .nil) rfl rfl (by decide) (by simp [Value.oneCell']) fun b13 hb13 nb13 => ?_)
        refine Bk rfl (B4 Be el_3 (Ar rfl <| Al rfl <| Ae) ho (Ae) (C6 (s := 1) 0 rfl rfl (by simp [Value.oneCell'])) (by omega) (by omega) (.s <| .s <| .s <| .s <| .s <| .z) .last fun v14 R15 ho16 => ?_)
        have ho2 : Own 3 1 v14 (iL (needN s) (p + 1)).length ((iL (needN s) (p + 1)).flatMap intE) R15 := by have h9 := ho16; rw [iL_succ]; exact h9.snoc (x := needN s p) rfl (by unfold needN kindsN intE; congr 2; omega)
        refine Ck (Cl sz_26 (Az rfl <| Ar rfl <| Ak rfl <| Ar rfl <| Al rfl <| Ak rfl <| A7 rfl <| Ak rfl <| Az rfl <| Ae) (Ae) (i := 1) rfl (.here) (Own.one ho2) (.next <| .here) ?_)
        refine Ah <| Bb <| Ab <| Cz (fun _ _ h => h.drop (.cons _ <| .cons_cons _ <| .cons_cons _ <| .cons_cons _ <| .cons_cons _ <| .refl _)) ?_
        refine Ai fun ds => Aa rfl (Bp (Az rfl <| Ar rfl <| Ak rfl <| Ar rfl <| Al rfl <| Ak rfl <| A7 rfl <| As rfl hs29) Ad rfl (by omega) (by omega)) ?_
        refine Aa rfl (Ag (Ae)) ?_
        refine Ah <| Ab ⟨_, m - 1, Off.eq (Di rfl <| Do rfl <| Eb rfl <| Df rfl <| Do rfl <| Di rfl <| Ba), by omega, ?_⟩
        refine ⟨p + 1, by omega, (Ae), _, _, ho2, rfl⟩
   ·
    refine Af <| Ai fun ds => Aa rfl (Br (As rfl hs29) (Ak rfl <| Al rfl <| Ae)) ?_
    refine Ah <| Ab <| Af <| Am (Ae) (by first | rfl | exact decide_eq_false (by omega)) ?_
    obtain rfl : p = s.places.length := by omega
    refine Cn (σ := ⟨_, _⟩) (by rfl) ho (.s <| .s <| .s <| .s <| .z) .last fun F17 hF18 hz19 => ?_
    replace hX := hX.mono hF18
    have hnd := ho.sl (fun _ => rfl) hz19 (by rw [C5]; omega)
    refine Cg (i := 0) rfl hb8 (.here) fun F20 hF21 hz5 => ?_
    replace hX := hX.mono hF21
    replace hnd := hnd.mono hF21
    refine Bn ?_
    refine Bd <| Bd <| Bf <| Ab <| Af <| Ai fun ds => Bk rfl (Cd zr_4 rfl fun b22 hb22 nb22 => ?_)
    refine Ck (Cl sz_4 (Ae) Ad (i := 0) rfl (.here) rfl (.here) ?_)
    refine Ah <| Ab <| Af <| Ai fun ds => Aa rfl (Ag (Ar rfl <| Ak rfl <| A7 rfl <| Ae)) ?_
    refine Aa rfl (q_makeFunc2 (.cons (Ae) .nil) .nil) ?_
    refine Bk rfl (Cd zr_119 rfl fun b23 hb23 nb23 => ?_)
    refine Ck (Cl sz_119 (Ae) (Al rfl <| Ae) (i := 0) rfl (.here) rfl (.here) ?_)
    refine Ah <| Ab <| Af <| Af <| Cg (i := 0) rfl hb23 (.here) fun F24 hF25 hz13 => ?_
    replace hX := hX.mono hF25
    replace hnd := hnd.mono hF25
    replace hz5 := hF25 _ _ hz5
    refine Ai fun ds => Aa rfl (Ag (Az rfl <| Al rfl <| Ak rfl <| A7 rfl <| Ae)) ?_
    refine Bk rfl (B6 bd_83 A1 (.cons (Ae) .nil) (trees_ok hX) fun v26 F27 hr28 hF29 => ?_)
    replace hX := hX.mono hF29
    replace hnd := hnd.mono hF29
    replace hz5 := hF29 _ _ hz5
    replace hz13 := hF29 _ _ hz13
    obtain ⟨dz, rfl, hzd⟩ := hr28
    refine Ah <| Ab <| A0 <| WC_rangeG rfl (Ae) (bd_116) (trees1_iter hX hv hzd) (Heap.le_refl _) (fun pre G H => ∃ v2, Nats G v2 ((cleanR s pre).getD []) ∧ H = [(b22, bx 4 [.bool (cleanR s pre).isSome]), (b2, bx 26 [v2]), (b1, bx 25 [vp, ve]), (kb, mapO [])]) (fun _ _ _ => False) (fun _ _ _ _ hF h => by obtain ⟨v, h1, h2⟩ := h; exact ⟨v, h1.mono hF, h2⟩) (fun _ _ _ _ _ h => h) ⟨_, Sl.nil, rfl⟩ (fun L D fn tm pre x rest G H1 vs hxs hle hJ hA => ?_) (fun _ _ _ _ h => h.elim) (fun F2 H1 hF2 hJ => ?_)
    ·
     replace hX := hX.mono hle
     replace hnd := hnd.mono hle
     replace hz5 := hle _ _ hz5
     replace hz13 := hle _ _ hz13
     obtain ⟨v2, hv2, rfl⟩ := hJ
     obtain rfl : vs = [treeV x] := hA
     have hxm : x ∈ allTrees s := by rw [hxs]; simp
     obtain ⟨hll, ht, -⟩ := Dw.1 hxm
     refine ⟨rfl, rfl, fun w1 => ?_⟩
     refine WC_eq (e' := (upd _ 69 (treeV x))) rfl rfl ?_
     refine Cc (.inr (by kernel_rfl)) (fun _ _ h => h) fun ds => ?_
     refine Bk rfl (Cd Ea rfl fun b30 hb30 nb30 => ?_)
     refine WL_order (.cons (.next <| .here) <| .cons (.next <| .here) <| .cons (.here) <| .cons (.here) <| .cons (.here) <| .cons (.here) <| .cons (.here) <| .nil) ?_
     refine Ck (Ch Ei (Ae) (Al rfl <| Ae) (i := 2) rfl rfl rfl rfl Dg (.next <| .next <| .here) ?_)
     refine Ah <| Ab ⟨_, rfl, ?_⟩
     refine A0 <| Af <| WC_name (i := 0) rfl (fun _ => .here) fun oL hoL => ?_
     refine Cc (.inr (by kernel_rfl)) (fun _ _ h => h) fun ds => ?_
     refine Aa rfl (Ac Ad) ?_
     refine Ah <| Ab <| Af <| Af <| Cc (.inr (by kernel_rfl)) (fun _ _ h => h) fun ds => ?_
     refine Aa rfl (Ap B8 (A7 rfl <| Ar rfl <| Ak rfl <| Az rfl <| Ae) (CellF.own hz5 rfl).cell) ?_
     refine Aa rfl (Bh Be (Ae) hnd.plain) ?_
     refine Aa rfl (Ag Ad) ?_
     refine Ah <| Ab <| A0 <| Bs [15, 16, 17, 72, 73, 74, 75, 76, 77, 78, 79, 80, 81, 82, 83, 84, 85, 86, 87] (fun m e σ => ∃ q : Nat, m + q = s.places.length ∧ e 72 = .int .i64 (q : Int) ∧ ∃ v15 R15, e 15 = v15 ∧ Own 3 1 v15 (selN (uncleanB s x) q).length ((selN (uncleanB s x) q).flatMap natE) R15 ∧ σ = ⟨G, (L, oL) :: (D, openO) :: (b30, bx 100 (treeC x)) :: (b22, bx 4 [.bool (cleanR s pre).isSome]) :: (b2, bx 26 [v2]) :: (b1, bx 25 [vp, ve]) :: (kb, mapO []) :: R15⟩) (s.places.length) ?_ ?_
     · exact ⟨0, by omega, (Ae), _, _, (Ar rfl <| Al rfl <| Ae), Own.nil, rfl⟩
     ·
      rintro m e _ ⟨q, hm, hs72, v15, R15, hs15, ho, rfl⟩; have hsl := Dk (p := (uncleanB s x)) (k := q)
      by_cases hlq : q < s.places.length
      ·
       refine Af <| Cc (.inr (by kernel_rfl)) (fun _ _ h => h) fun ds => ?_
       refine Aa rfl (Br (As rfl hs72) (Ak rfl <| Al rfl <| Ae)) ?_
       refine Ah <| Ab <| Af <| Aq (Ae) (by first | rfl | exact decide_eq_true (by omega)) ?_
       have hnq : (iL (needN s) s.places.length)[q]'(by rw [C5]; exact hlq) = needN s q := iL_at _
       have hup := unclean_place ht hv hll (p := q)
       by_cases hub : uncleanB s x q = true
       ·
        refine Au <| Ab <| Af <| A0 <| Af <| Cc (.inr (by kernel_rfl)) (fun _ _ h => h) fun ds => ?_
        refine Aa rfl (Ag (Al rfl <| As rfl hs72)) ?_
        refine Aa rfl (A9 (k := q) Be (Ar rfl <| Ak rfl <| Ar rfl <| Ae) hnd.plain (Ar rfl <| As rfl hs72) rfl (by rw [C5]; exact hlq)) ?_
        refine Aa rfl (Ap Bl (Ae) (hnd.cell1 (by rw [C5]; exact hlq) rfl)) ?_
        refine Aa rfl (Ac (Ar rfl <| Ae)) ?_
        refine Aa rfl (Ac (Al rfl <| Ae)) ?_
        refine Ah <| Ab <| Af <| Cc (.inr (by kernel_rfl)) (fun _ _ h => h) fun ds => ?_
        refine Aa rfl (Ap one_119 (Az rfl <| Ar rfl <| Ak rfl <| A7 rfl <| Ae) (CellF.own hz13 rfl).cell) ?_
        refine Aa rfl (A8 B5 (Az rfl <| Ar rfl <| Al rfl <| Ak rfl <| Az rfl <| Ae) rfl rfl (A3 2 rfl)) ?_
        refine Aa rfl (Ag (Ar rfl <| Al rfl <| Ae)) ?_
        refine B0 rfl (q_callF bd_82 (Ar rfl <| Ae) (.cons (Al rfl <| Ae) (.cons (Ae) .nil)) (D5 hX ht hll hv hlq) (fun _ _ h => h)) ?_
        refine Aa rfl (Ag (Az rfl <| Ae)) ?_
        refine Aa rfl (By (Al rfl <| Ae) (Ae)) ?_
        refine Ah <| Ab <| Aq (Ae) (decide_eq_true (by rw [hnq]; exact hup.2 hub)) ?_
        refine Cc (.inr (by kernel_rfl)) (fun _ _ h => h) fun ds => ?_
        refine Aa rfl (Ag (A7 rfl <| Az rfl <| As rfl hs15)) ?_
        refine Aa rfl (Ag (A7 rfl <| Ae)) ?_
        refine Bk rfl (B2 Be Db rfl (.cons (Ae) .nil) rfl rfl (by decide) (by simp [Value.oneCell']) fun b32 hb32 nb32 => ?_)
        refine Bk rfl (B4 Be el_3 (Ar rfl <| Ae) ho (Ae) (C6 (s := 1) 0 rfl rfl (by simp [Value.oneCell'])) (by omega) (by omega) (.s <| .s <| .s <| .s <| .s <| .s <| .s <| .s <| .z) .last fun v33 R34 ho35 => ?_)
        have ho2 := ho35.snoc (x := q) rfl rfl
        refine Aa rfl (Ac (Ae)) ?_
        refine Ah <| Bb <| Ab <| Cz (fun _ _ h => h.drop (.cons _ <| .cons_cons _ <| .cons_cons _ <| .cons_cons _ <| .cons_cons _ <| .cons_cons _ <| .cons_cons _ <| .cons_cons _ <| .refl _)) ?_
        refine Cc (.inr (by kernel_rfl)) (fun _ _ h => h) fun ds => ?_
        refine Aa rfl (Bp (A5 rfl <| Al rfl <| As rfl hs72) Ad rfl (by omega) (by omega)) ?_
        refine Aa rfl (Ag (Ae)) ?_
        refine Ah <| Ab ⟨_, m - 1, Off.eq (Cq rfl <| Eb rfl <| Df rfl <| Ba), by omega, ?_⟩
        exact ⟨q + 1, by omega, (Ae), _, _, (Ar rfl <| Ae), by rw [Dh, if_pos hub]; exact ho2, rfl⟩
       ·
        replace hub : uncleanB s x q = false := by simpa using hub
        refine Au <| Ab <| Af <| A0 <| Af <| Cc (.inr (by kernel_rfl)) (fun _ _ h => h) fun ds => ?_
        refine Aa rfl (Ag (Al rfl <| As rfl hs72)) ?_
        refine Aa rfl (A9 (k := q) Be (Ar rfl <| Ak rfl <| Ar rfl <| Ae) hnd.plain (Ar rfl <| As rfl hs72) rfl (by rw [C5]; exact hlq)) ?_
        refine Aa rfl (Ap Bl (Ae) (hnd.cell1 (by rw [C5]; exact hlq) rfl)) ?_
        refine Aa rfl (Ac (Ar rfl <| Ae)) ?_
        refine Aa rfl (Ac (Al rfl <| Ae)) ?_
        refine Ah <| Ab <| Af <| Cc (.inr (by kernel_rfl)) (fun _ _ h => h) fun ds => ?_
        refine Aa rfl (Ap one_119 (Az rfl <| Ar rfl <| Ak rfl <| A7 rfl <| Ae) (CellF.own hz13 rfl).cell) ?_
        refine Aa rfl (A8 B5 (Az rfl <| Ar rfl <| Al rfl <| Ak rfl <| Az rfl <| Ae) rfl rfl (A3 2 rfl)) ?_
        refine Aa rfl (Ag (Ar rfl <| Al rfl <| Ae)) ?_
        refine B0 rfl (q_callF bd_82 (Ar rfl <| Ae) (.cons (Al rfl <| Ae) (.cons (Ae) .nil)) (D5 hX ht hll hv hlq) (fun _ _ h => h)) ?_
        refine Aa rfl (Ag (Az rfl <| Ae)) ?_
        refine Aa rfl (By (Al rfl <| Ae) (Ae)) ?_
        refine Ah <| Ab <| Am (Ae) (decide_eq_false (by rw [hnq]; exact fun h => by rw [hup.1 h] at hub; cases hub)) ?_
        refine Au <| Bb <| Ab <| Cc (.inr (by kernel_rfl)) (fun _ _ h => h) fun ds => ?_
        refine Aa rfl (Bp (A7 rfl <| Az rfl <| As rfl hs72) Ad rfl (by omega) (by omega)) ?_
        refine Aa rfl (Ag (Ae)) ?_
        refine Ah <| Ab ⟨_, m - 1, Off.eq (Di rfl <| Dy rfl <| Eb rfl <| Ba), by omega, ?_⟩
        exact ⟨q + 1, by omega, (Ae), _, _, (A7 rfl <| Az rfl <| Ar rfl <| As rfl hs15), by rw [Dh, if_neg (by rw [hub]; simp)]; exact ho, rfl⟩
      ·
       refine Af <| Cc (.inr (by kernel_rfl)) (fun _ _ h => h) fun ds => ?_
       refine Aa rfl (Br (As rfl hs72) (Ak rfl <| Al rfl <| Ae)) ?_
       refine Ah <| Ab <| Af <| Am (Ae) (by first | rfl | exact decide_eq_false (by omega)) ?_
       obtain rfl : q = s.places.length := by omega
       refine WC_freezeRM (σ := ⟨_, _⟩) (by intro m hm; simp [keys] at hm ⊢; rcases hm with h | h | h | h | h | h <;> simp [h]) ho (.s <| .s <| .s <| .s <| .s <| .s <| .s <| .z) .last fun F36 hF37 hz38 => ?_
       replace hle := hle.mono hF37
       replace hv2 := hv2.mono hF37
       have hl15 := ho.sl (fun _ => rfl) hz38 (by omega)
       change Nats _ _ (uncleanL s x) at hl15
       rcases opt_or (cleanR s pre) with hcs | ⟨bb, hcs⟩
       ·
        refine Bn ?_
        refine Bd <| Bd <| Bf <| Ab <| Af <| Cc (.inr (by kernel_rfl)) (fun _ _ h => h) fun ds => ?_
        refine Aa rfl (Ap one_4 (Al rfl <| Ak rfl <| A7 rfl <| Ar rfl <| Al rfl <| Ae) (Cell.own 3 rfl rfl)) ?_
        refine Aa rfl (Cm (Ae)) ?_
        refine Aa rfl (Ag (Ae)) ?_
        refine Aw rfl rfl (Ae) (.inl (congrArg Value.bool (by rw [hcs]; rfl))) rfl ?_
        refine Aw rfl rfl (Al rfl <| Ae) (.inl (congrArg Value.bool (by rw [hcs]; rfl))) rfl ?_
        refine Aw rfl rfl (Ar rfl <| Ae) (.inl (congrArg Value.bool (by rw [hcs]; rfl))) rfl ?_
        refine Aw rfl rfl (Ar rfl <| Al rfl <| Ae) (.inl (congrArg Value.bool (by rw [hcs]; rfl))) rfl ?_
        refine Aw rfl rfl (Az rfl <| Ae) (.inl (congrArg Value.bool (by rw [hcs]; rfl))) rfl ?_
        refine Aa rfl (A6 (Az rfl <| Al rfl <| Ae) (by rw [hcs]; rfl) Ad) ?_
        refine Aa rfl (Ag (Ae)) ?_
        refine Aw rfl rfl (Ae) (.inl (congrArg Value.bool rfl)) rfl ?_
        refine Aw rfl rfl (Al rfl <| Ae) (.inl (congrArg Value.bool rfl)) rfl ?_
        refine Aw rfl rfl (Ar rfl <| Ae) (.inl (congrArg Value.bool rfl)) rfl ?_
        refine Aw rfl rfl (Ar rfl <| Al rfl <| Ae) (.inl (congrArg Value.bool rfl)) rfl ?_
        refine Aw rfl rfl (Az rfl <| Ae) (.inl (congrArg Value.bool rfl)) rfl ?_
        refine Aw rfl rfl (Az rfl <| Al rfl <| Ae) (.inl (congrArg Value.bool rfl)) rfl ?_
        refine Aw rfl rfl (Ae) (.inr rfl) rfl ?_
        refine Aw rfl rfl (Al rfl <| Ae) (.inr rfl) rfl ?_
        refine Aw rfl rfl (Ar rfl <| Ae) (.inr rfl) rfl ?_
        refine Aw rfl rfl (Ar rfl <| Al rfl <| Ae) (.inr rfl) rfl ?_
        refine Aw rfl rfl (A7 rfl <| Ar rfl <| Ae) (.inl (congrArg Value.bool rfl)) rfl ?_
        refine Aa rfl (A6 (A7 rfl <| Ar rfl <| Al rfl <| Ae) rfl Ad) ?_
        refine Ah <| Ab <| Aq (Ae) rfl ?_
        subst hoL
        refine Cc (.inr (by kernel_rfl)) (fun _ _ h => h) fun ds => ?_
        refine Aa rfl (Ag (A5 rfl <| Az rfl <| Ar rfl <| Al rfl <| As rfl hs15)) ?_
        refine Ck (Cl sz_26 (A5 rfl <| A7 rfl <| Ak rfl <| A7 rfl <| Az rfl <| Al rfl <| Ak rfl <| A7 rfl <| Az rfl <| Ar rfl <| Al rfl <| Ae) (Ae) (i := 4) rfl (.here) (by first | rfl | exact hl15.plain.one) (.next <| .next <| .next <| .next <| .here) ?_)
        refine Ck (Cl sz_4 (A5 rfl <| A7 rfl <| Ak rfl <| A7 rfl <| Ar rfl <| Al rfl <| Ae) Ad (i := 3) rfl (.here) (by first | rfl | exact hl15.plain.one) (.next <| .next <| .next <| .here) ?_)
        refine Ah <| Bb ?_
        refine Ev (.one (.here) <| .one (.here) <| .one (.next <| .here) <| .one (.next <| .here) <| .one (.next <| .here) <| .one (.next <| .here) <| .nil) ?_
        refine .inl ⟨rfl, _, rfl, hle, ?_⟩
        exact ⟨_, by rw [cleanS_none hcs]; exact hl15, by rw [cleanS_none hcs]; first | done | rfl⟩
       ·
        have hv2b := hv2
        rw [hcs] at hv2b
        replace hv2b : Nats _ v2 bb := hv2b
        have hbl := hv2b.plain.lt
        refine Bn ?_
        refine Bd <| Bd <| Bf <| Ab <| Af <| Cc (.inr (by kernel_rfl)) (fun _ _ h => h) fun ds => ?_
        refine Aa rfl (Ap one_4 (Al rfl <| Ak rfl <| A7 rfl <| Ar rfl <| Al rfl <| Ae) (Cell.own 3 rfl rfl)) ?_
        refine Aa rfl (Cm (Ae)) ?_
        refine Aa rfl (Ag (Ae)) ?_
        refine At rfl rfl (Ae) (by rw [hcs]; rfl) ?_
        refine Aa rfl (Ag (Az rfl <| As rfl hs15)) ?_
        refine At rfl rfl (Al rfl <| Ae) (by rw [hcs]; rfl) ?_
        refine Aa rfl (Bh Be (Ae) hl15.plain) ?_
        refine At rfl rfl (Ar rfl <| Ae) (by rw [hcs]; rfl) ?_
        refine Aa rfl (Ap B8 (Az rfl <| Ar rfl <| Ak rfl <| A7 rfl <| Az rfl <| Al rfl <| Ak rfl <| A7 rfl <| Az rfl <| Ar rfl <| Al rfl <| Ae) (Cell.own 4 rfl rfl)) ?_
        refine At rfl rfl (Ar rfl <| Al rfl <| Ae) (by rw [hcs]; rfl) ?_
        refine Aa rfl (Bh Be (Ae) hv2.plain) ?_
        refine At rfl rfl (Az rfl <| Ae) (by rw [hcs]; rfl) ?_
        refine Aa rfl (Br (Ar rfl <| Ae) (Ae)) ?_
        refine Aa rfl (Bg (Az rfl <| Al rfl <| Ae) (by rw [hcs]; rfl) (Ae)) ?_
        refine Aa rfl (Ag (Ae)) ?_
        by_cases h1 : (uncleanL s x).length < bb.length
        ·
         refine Aw rfl rfl (Ae) (.inl (congrArg Value.bool (decide_eq_true (by rw [hcs]; show (_ : Int) < (bb.length : Int); omega)))) rfl ?_
         refine Aw rfl rfl (Al rfl <| Ae) (.inl (congrArg Value.bool (decide_eq_true (by rw [hcs]; show (_ : Int) < (bb.length : Int); omega)))) rfl ?_
         refine Aw rfl rfl (Ar rfl <| Ae) (.inl (congrArg Value.bool (decide_eq_true (by rw [hcs]; show (_ : Int) < (bb.length : Int); omega)))) rfl ?_
         refine Aw rfl rfl (Ar rfl <| Al rfl <| Ae) (.inl (congrArg Value.bool (decide_eq_true (by rw [hcs]; show (_ : Int) < (bb.length : Int); omega)))) rfl ?_
         refine Aw rfl rfl (Az rfl <| Ae) (.inl (congrArg Value.bool (decide_eq_true (by rw [hcs]; show (_ : Int) < (bb.length : Int); omega)))) rfl ?_
         refine Aw rfl rfl (Az rfl <| Al rfl <| Ae) (.inl (congrArg Value.bool (decide_eq_true (by rw [hcs]; show (_ : Int) < (bb.length : Int); omega)))) rfl ?_
         refine Aw rfl rfl (Ae) (.inr rfl) rfl ?_
         refine Aw rfl rfl (Al rfl <| Ae) (.inr rfl) rfl ?_
         refine Aw rfl rfl (Ar rfl <| Ae) (.inr rfl) rfl ?_
         refine Aw rfl rfl (Ar rfl <| Al rfl <| Ae) (.inr rfl) rfl ?_
         refine Aw rfl rfl (A7 rfl <| Ar rfl <| Ae) (.inl (congrArg Value.bool (decide_eq_true (by rw [hcs]; show (_ : Int) < (bb.length : Int); omega)))) rfl ?_
         refine Aa rfl (A6 (A7 rfl <| Ar rfl <| Al rfl <| Ae) (decide_eq_true (by rw [hcs]; show (_ : Int) < (bb.length : Int); omega)) Ad) ?_
         refine Ah <| Ab <| Aq (Ae) rfl ?_
         subst hoL
         refine Cc (.inr (by kernel_rfl)) (fun _ _ h => h) fun ds => ?_
         refine Aa rfl (Ag (A5 rfl <| Az rfl <| Ar rfl <| Al rfl <| As rfl hs15)) ?_
         refine Ck (Cl sz_26 (A5 rfl <| A7 rfl <| Ak rfl <| A7 rfl <| Az rfl <| Al rfl <| Ak rfl <| A7 rfl <| Az rfl <| Ar rfl <| Al rfl <| Ae) (Ae) (i := 4) rfl (.here) (by first | rfl | exact hl15.plain.one) (.next <| .next <| .next <| .next <| .here) ?_)
         refine Ck (Cl sz_4 (A5 rfl <| A7 rfl <| Ak rfl <| A7 rfl <| Ar rfl <| Al rfl <| Ae) Ad (i := 3) rfl (.here) (by first | rfl | exact hl15.plain.one) (.next <| .next <| .next <| .here) ?_)
         refine Ah <| Bb ?_
         refine Ev (.one (.here) <| .one (.here) <| .one (.next <| .here) <| .one (.next <| .here) <| .one (.next <| .here) <| .one (.next <| .here) <| .nil) ?_
         refine .inl ⟨rfl, _, rfl, hle, ?_⟩
         exact ⟨_, by rw [cleanS_yes hcs (.inl h1)]; exact hl15, by rw [cleanS_yes hcs (.inl h1)]; first | done | rfl⟩
        ·
         refine At rfl rfl (Ae) (decide_eq_false (by rw [hcs]; show ¬ (_ : Int) < (bb.length : Int); omega)) ?_
         refine Aa rfl (Ag (A7 rfl <| Ar rfl <| Al rfl <| As rfl hs15)) ?_
         refine At rfl rfl (Al rfl <| Ae) (decide_eq_false (by rw [hcs]; show ¬ (_ : Int) < (bb.length : Int); omega)) ?_
         refine Aa rfl (Bh Be (Ae) hl15.plain) ?_
         refine At rfl rfl (Ar rfl <| Ae) (decide_eq_false (by rw [hcs]; show ¬ (_ : Int) < (bb.length : Int); omega)) ?_
         refine Aa rfl (Ap B8 (A7 rfl <| Az rfl <| Al rfl <| Ak rfl <| A7 rfl <| Az rfl <| Al rfl <| Ak rfl <| A7 rfl <| Az rfl <| Ar rfl <| Al rfl <| Ae) (Cell.own 4 rfl rfl)) ?_
         refine At rfl rfl (Ar rfl <| Al rfl <| Ae) (decide_eq_false (by rw [hcs]; show ¬ (_ : Int) < (bb.length : Int); omega)) ?_
         refine Aa rfl (Bh Be (Ae) hv2.plain) ?_
         refine At rfl rfl (Az rfl <| Ae) (decide_eq_false (by rw [hcs]; show ¬ (_ : Int) < (bb.length : Int); omega)) ?_
         refine Aa rfl (Bx (Ar rfl <| Ae) (Ae)) ?_
         refine At rfl rfl (Az rfl <| Al rfl <| Ae) (decide_eq_false (by rw [hcs]; show ¬ (_ : Int) < (bb.length : Int); omega)) ?_
         refine Aa rfl (Ag (Ae)) ?_
         by_cases h2 : (uncleanL s x).length = bb.length
         ·
          refine At rfl rfl (Ae) (decide_eq_true (by rw [hcs]; show (_ : Int) = (bb.length : Int); omega)) ?_
          refine Aa rfl (Ag (A5 rfl <| Al rfl <| As rfl hs15)) ?_
          refine At rfl rfl (Al rfl <| Ae) (decide_eq_true (by rw [hcs]; show (_ : Int) = (bb.length : Int); omega)) ?_
          refine Aa rfl (Ap B8 (A5 rfl <| Ar rfl <| Ak rfl <| A7 rfl <| Az rfl <| Al rfl <| Ak rfl <| A7 rfl <| Az rfl <| Ar rfl <| Al rfl <| Ae) (Cell.own 4 rfl rfl)) ?_
          refine At rfl rfl (Ar rfl <| Ae) (decide_eq_true (by rw [hcs]; show (_ : Int) = (bb.length : Int); omega)) ?_
          refine B0 rfl (Bj bd_84 A1 (.cons (Al rfl <| Ae) (.cons (Ae) .nil)) (compare_ok hl15 hv2) (fun _ _ h => h)) ?_
          refine At rfl rfl (Ar rfl <| Al rfl <| Ae) (decide_eq_true (by rw [hcs]; show (_ : Int) = (bb.length : Int); omega)) ?_
          refine Aa rfl (Br (Ae) Ad) ?_
          refine At rfl rfl (A7 rfl <| Ar rfl <| Ae) (decide_eq_false (by rw [hcs]; show ¬ (_ : Int) < (bb.length : Int); omega)) ?_
          refine Aa rfl (A6 (Az rfl <| Ae) (decide_eq_true (by rw [hcs]; show (_ : Int) = (bb.length : Int); omega)) (Ae)) ?_
          refine Aa rfl (Bg (A7 rfl <| Ar rfl <| Al rfl <| Ae) (decide_eq_false (by rw [hcs]; show ¬ (_ : Int) < (bb.length : Int); omega)) (Ae)) ?_
          refine Ah <| Ab ?_
          by_cases h3 : cmpL (uncleanL s x) bb < 0
          ·
           refine Aq (Ae) (by rw [hcs]; exact decide_eq_true h3) ?_
           subst hoL
           refine Cc (.inr (by kernel_rfl)) (fun _ _ h => h) fun ds => ?_
           refine Aa rfl (Ag (A5 rfl <| Az rfl <| Ar rfl <| Al rfl <| As rfl hs15)) ?_
           refine Ck (Cl sz_26 (A5 rfl <| A7 rfl <| Ak rfl <| A7 rfl <| Az rfl <| Al rfl <| Ak rfl <| A7 rfl <| Az rfl <| Ar rfl <| Al rfl <| Ae) (Ae) (i := 4) rfl (.here) (by first | rfl | exact hl15.plain.one) (.next <| .next <| .next <| .next <| .here) ?_)
           refine Ck (Cl sz_4 (A5 rfl <| A7 rfl <| Ak rfl <| A7 rfl <| Ar rfl <| Al rfl <| Ae) Ad (i := 3) rfl (.here) (by first | rfl | exact hl15.plain.one) (.next <| .next <| .next <| .here) ?_)
           refine Ah <| Bb ?_
           refine Ev (.one (.here) <| .one (.here) <| .one (.next <| .here) <| .one (.next <| .here) <| .one (.next <| .here) <| .one (.next <| .here) <| .nil) ?_
           refine .inl ⟨rfl, _, rfl, hle, ?_⟩
           exact ⟨_, by rw [cleanS_yes hcs (.inr ⟨h2, h3⟩)]; exact hl15, by rw [cleanS_yes hcs (.inr ⟨h2, h3⟩)]; first | done | rfl⟩
          ·
           refine Am (Ae) (by rw [hcs]; exact decide_eq_false h3) ?_
           subst hoL
           refine Au <| Bb ?_
           refine Ev (.one (.here) <| .one (.here) <| .one (.next <| .here) <| .one (.next <| .here) <| .one (.next <| .here) <| .one (.next <| .here) <| .nil) ?_
           refine .inl ⟨rfl, _, rfl, hle, ?_⟩
           exact ⟨_, by rw [cleanS_no hcs (fun h => h.elim h1 (fun h => h3 h.2))]; exact hv2b, by rw [cleanS_no hcs (fun h => h.elim h1 (fun h => h3 h.2)), hcs]; first | done | rfl⟩
         ·
          refine Aw rfl rfl (Ae) (.inl (congrArg Value.bool (decide_eq_false (by rw [hcs]; show ¬ (_ : Int) = (bb.length : Int); omega)))) rfl ?_
          refine Aw rfl rfl (Al rfl <| Ae) (.inl (congrArg Value.bool (decide_eq_false (by rw [hcs]; show ¬ (_ : Int) = (bb.length : Int); omega)))) rfl ?_
          refine Aw rfl rfl (Ar rfl <| Ae) (.inl (congrArg Value.bool (decide_eq_false (by rw [hcs]; show ¬ (_ : Int) = (bb.length : Int); omega)))) rfl ?_
          refine Aw rfl rfl (Ar rfl <| Al rfl <| Ae) (.inl (congrArg Value.bool (decide_eq_false (by rw [hcs]; show ¬ (_ : Int) = (bb.length : Int); omega)))) rfl ?_
          refine At rfl rfl (A7 rfl <| Ar rfl <| Ae) (decide_eq_false (by rw [hcs]; show ¬ (_ : Int) < (bb.length : Int); omega)) ?_
          refine Aa rfl (Bg (Az rfl <| Ae) (decide_eq_false (by rw [hcs]; show ¬ (_ : Int) = (bb.length : Int); omega)) Ad) ?_
          refine Aa rfl (Bg (A7 rfl <| Ar rfl <| Al rfl <| Ae) (decide_eq_false (by rw [hcs]; show ¬ (_ : Int) < (bb.length : Int); omega)) (Ae)) ?_
          refine Ah <| Ab <| Am (Ae) rfl ?_
          subst hoL
          refine Au <| Bb ?_
          refine Ev (.one (.here) <| .one (.here) <| .one (.next <| .here) <| .one (.next <| .here) <| .one (.next <| .here) <| .one (.next <| .here) <| .nil) ?_
          refine .inl ⟨rfl, _, rfl, hle, ?_⟩
          exact ⟨_, by rw [cleanS_no hcs (fun h => h.elim h1 (fun h => h2 h.1))]; exact hv2b, by rw [cleanS_no hcs (fun h => h.elim h1 (fun h => h2 h.1)), hcs]; first | done | rfl⟩
    obtain ⟨v2, hv2, rfl⟩ := hJ
    refine Bb <| Ab ?_
    rcases opt_or (cleanR s (allTrees s)) with hcs | ⟨bb, hcs⟩
    ·
     refine Af <| Af <| Ai fun ds => Aa rfl (Ap one_4 (Az rfl <| Al rfl <| Ae) (Cell.own 0 rfl rfl)) ?_
     refine Aa rfl (Cm (Ae)) ?_
     refine Ah <| Ab <| Aq (Ae) (by rw [hcs]; rfl) ?_
     refine Af <| Ai fun ds => Ck (Cl sz_26 (A7 rfl <| Al rfl <| Ak rfl <| A7 rfl <| Az rfl <| Ar rfl <| Al rfl <| Ae) Ad (i := 1) rfl (.here) rfl (.next <| .here) ?_)
     refine Aa rfl (Ac Ad) ?_
     refine Ah <| Ab <| A4 <| Bc ?_
     refine Ay rfl (.one B8 (A7 rfl <| Ar rfl <| Ak rfl <| A7 rfl <| Az rfl <| Ar rfl <| Al rfl <| Ae) (Cell.own 1 rfl rfl) (.tmp (Ae) .nil)) ?_
     rw [cleanE_none h0 hcs]
     exact ⟨_, rfl, Sl.nil⟩
    ·
     refine Af <| Af <| Ai fun ds => Aa rfl (Ap one_4 (Az rfl <| Al rfl <| Ae) (Cell.own 0 rfl rfl)) ?_
     refine Aa rfl (Cm (Ae)) ?_
     refine Ah <| Ab <| Am (Ae) (by rw [hcs]; rfl) ?_
     refine Au <| Ab <| Af <| Ai fun ds => Aa rfl (Ap B8 (A7 rfl <| Al rfl <| Ak rfl <| A7 rfl <| Az rfl <| Ar rfl <| Al rfl <| Ae) (Cell.own 1 rfl rfl)) ?_
     refine Ck (Cl sz_26 (A7 rfl <| Ar rfl <| Ak rfl <| A7 rfl <| Az rfl <| Ar rfl <| Al rfl <| Ae) (Ae) (i := 1) rfl (.here) hv2.plain.one (.next <| .here) ?_)
     refine Aa rfl (Ac Ad) ?_
     refine Ah <| Ab <| A4 <| Ay rfl (.one B8 (A7 rfl <| Ar rfl <| Al rfl <| Ak rfl <| A7 rfl <| Az rfl <| Ar rfl <| Al rfl <| Ae) (Cell.own 1 rfl rfl) (.tmp (Ae) .nil)) ?_
     rw [cleanE_some h0 hcs]
     rw [hcs] at hv2
     exact ⟨_, rfl, hv2⟩
 ·
  refine Af <| Ai fun ds => Bk rfl (B1 (Aj rfl) rfl fun b39 hb39 nb39 => ?_)
  refine Bk rfl (Cd zr_26 rfl fun b40 hb40 nb40 => ?_)
  refine Aa rfl (Ac Ad) ?_
  refine Ah <| Ab <| Af <| Ai fun ds => Aa rfl (A8 Bw (Ar rfl <| Ae) rfl rfl (A3 1 rfl)) ?_
  refine B0 rfl (Bj bd_65 A1 (.cons (Ae) .nil) (open_bad hr h0) (fun _ _ h => h)) ?_
  refine Aa rfl (Ag (Ae)) ?_
  refine Aa rfl (Ax (Ae) rfl) ?_
  refine Aa rfl (Ax (Al rfl <| Ae) rfl) ?_
  refine Aa rfl (Ac (Al rfl <| Ae)) ?_
  refine Aa rfl (Ac (Al rfl <| Ae)) ?_
  refine Ah <| Ab <| Af <| Af <| Ai fun ds => Aa rfl (Ag (Ae)) ?_
  refine Aa rfl (By (Ae) Ad) ?_
  refine Ah <| Ab <| Aq (Ae) (decide_eq_true h0) ?_
  refine Af <| Ai fun ds => Aa rfl (Ag (Ar rfl <| Ae)) ?_
  refine Ck (Cl sz_26 (A7 rfl <| Ar rfl <| Al rfl <| Ae) Ad (i := 0) rfl (.here) rfl (.here) ?_)
  refine Aa rfl (Ac (Ae)) ?_
  refine Ah <| Ab <| A4 <| Bc ?_
  refine Ay rfl (.one B8 (A7 rfl <| Az rfl <| Ae) (Cell.own 0 rfl rfl) (.tmp (Ae) .nil)) ?_
  rw [cleanE_bad h0]
  exact ⟨_, rfl, Sl.nil⟩
end Go.Proofs.Ytccogmkhijgelaa
namespace Go.Proofs.Ytccogmkhijgelaa
open Go.RowKit
def plA : Plc := ⟨⟨#[97]⟩, 0⟩
def plB : Plc := ⟨⟨#[98]⟩, 1⟩
def plC : Plc := ⟨⟨#[99]⟩, 0⟩
def edQ1 : Edn := ⟨⟨#[113, 49]⟩, 1600, 1600, [1, 1, 1]⟩
def edQ2 : Edn := ⟨⟨#[113, 50]⟩, 1605, 1610, [2, 1, 1]⟩
def edF1 : Edn := ⟨⟨#[102, 49]⟩, 1623, 1623, [2, 2, 1]⟩
def edQ3 : Edn := ⟨⟨#[113, 51]⟩, 1608, 1630, [0, 1, 2]⟩
def stemX : Stm := ⟨[plA, plB, plC], [edQ1, edQ2, edF1, edQ3]⟩
def bestX : List Int := [-1, 0, 1, 0]
def starX : List Int := [-1, 0, 0, 0]
def lineX : List Int := [-1, 0, 1, 2]
def twoX : List Int := [-1, 0, 1, 1]
theorem ev_p1 : apartE stemX 0 2 = ([0, 1], 0) := by kernel_rfl
theorem ev_c1 : changesE stemX starX = (4, 0) := by kernel_rfl
theorem ev_c2 : changesE stemX lineX = (0, 9) := by kernel_rfl
theorem ev_y1 : yearsE stemX twoX = ([(1600, 1600), (1605, 1610), (1623, 1623), (1608, 1630)], 0) := by kernel_rfl
theorem ev_b1 : bestTE stemX = (bestX, 3, 2, 0) := by kernel_rfl
theorem ev_f1 : firstTE stemX = ([0], 0) := by kernel_rfl
theorem ev_m1 : fromE stemX 1 2 = (1, 0) := by kernel_rfl
theorem ev_r1 : readE stemX bestX 3 0 = ([1], 0) := by kernel_rfl
theorem ev_l1 : cleanE stemX = ([], 0) := by kernel_rfl
theorem ev_s1 : secE stemX starX 2 = (1, 1, 0) := by kernel_rfl
theorem ev_s2 : secE stemX bestX 2 = (0, 0, 8) := by kernel_rfl
end Go.Proofs.Ytccogmkhijgelaa
namespace Go.Proofs.Ytccogmkhijgelaa
open Go.RowKit
theorem zr_25 : ZeroT Try.prog 25 (.agg #[.slice none 0 0, .slice none 0 0]) := Dc (by kernel_rfl)
theorem bd_20 : Body Try.prog 20 := Bo (by kernel_rfl)
theorem bd_21 : Body Try.prog 21 := Bo (by kernel_rfl)
theorem bd_23 : Body Try.prog 23 := Bo (by kernel_rfl)
theorem bd_25 : Body Try.prog 25 := Bo (by kernel_rfl)
theorem bd_26 : Body Try.prog 26 := Bo (by kernel_rfl)
theorem bd_27 : Body Try.prog 27 := Bo (by kernel_rfl)
theorem bd_29 : Body Try.prog 29 := Bo (by kernel_rfl)
theorem bd_31 : Body Try.prog 31 := Bo (by kernel_rfl)
theorem bd_33 : Body Try.prog 33 := Bo (by kernel_rfl)
theorem bd_35 : Body Try.prog 35 := Bo (by kernel_rfl)
theorem bd_37 : Body Try.prog 37 := Bo (by kernel_rfl)
theorem bd_39 : Body Try.prog 39 := Bo (by kernel_rfl)
theorem bd_95 : Body Try.prog 95 := Bo (by kernel_rfl)
theorem bt_25 : BuildT Try.prog 25 [.slice none 0 0, .slice none 0 0] [(0, 1), (1, 1)] := buildT_of zr_25 (by kernel_rfl) (by decide)
theorem bt_60 : BuildT Try.prog 60 [.int .i64 0, .int .i64 0] [(0, 1), (1, 1)] := buildT_of zr_60 (by kernel_rfl) (by decide)
theorem bt_64 : BuildT Try.prog 64 [.string ⟨#[]⟩, .int .i64 0, .int .i64 0, .slice none 0 0] [(0, 1), (1, 2), (3, 1)] := buildT_of zr_64 (by kernel_rfl) (by decide)
theorem bt_70 : BuildT Try.prog 70 [.string ⟨#[]⟩, .int .i64 0] [(0, 1), (1, 1)] := buildT_of zr_70 (by kernel_rfl) (by decide)
theorem sz_25 : SizeT Try.prog 25 2 := C0 (by kernel_rfl)
theorem ints_box3 {F : Heap} {b T : Nat} {x y z : Int} (h : F b = some (bx T [.int .i64 x, .int .i64 y, .int .i64 z])) : Ints F (.slice (some ⟨b, 0, none⟩) 3 3) [x, y, z] :=
 sl_box (xs := [x, y, z]) h rfl rfl (fun _ => rfl) (by decide)
theorem ints_box4 {F : Heap} {b T : Nat} {x y z w : Int} (h : F b = some (bx T [.int .i64 x, .int .i64 y, .int .i64 z, .int .i64 w])) : Ints F (.slice (some ⟨b, 0, none⟩) 4 4) [x, y, z, w] :=
 sl_box (xs := [x, y, z, w]) h rfl rfl (fun _ => rfl) (by decide)
theorem plcX_box3 {F : Heap} {b T : Nat} (h : F b = some (bx T [.string ⟨#[97]⟩, .int .i64 0, .string ⟨#[98]⟩, .int .i64 1, .string ⟨#[99]⟩, .int .i64 0])) : Sl F (.slice (some ⟨b, 0, none⟩) 3 3) 2 Plc.enc [plA, plB, plC] :=
 sl_box (xs := [plA, plB, plC]) h rfl rfl (fun _ => rfl) (by decide)
theorem ednX_box4 {F : Heap} {b T : Nat} {v1 v2 v3 v4 : Value} (h : F b = some (bx T [.string ⟨#[113, 49]⟩, .int .i64 1600, .int .i64 1600, v1, .string ⟨#[113, 50]⟩, .int .i64 1605, .int .i64 1610, v2, .string ⟨#[102, 49]⟩, .int .i64 1623, .int .i64 1623, v3, .string ⟨#[113, 51]⟩, .int .i64 1608, .int .i64 1630, v4])) : Sl F (.slice (some ⟨b, 0, none⟩) 4 4) 4 edE [(v1, edQ1), (v2, edQ2), (v3, edF1), (v4, edQ3)] :=
 sl_box (xs := [(v1, edQ1), (v2, edQ2), (v3, edF1), (v4, edQ3)]) h rfl rfl (fun _ => rfl) (by decide)
theorem spansX_box4 {F : Heap} {b T : Nat} (h : F b = some (bx T [.int .i64 1600, .int .i64 1600, .int .i64 1605, .int .i64 1610, .int .i64 1623, .int .i64 1623, .int .i64 1608, .int .i64 1630])) : Sl F (.slice (some ⟨b, 0, none⟩) 4 4) 2 spanE [(1600, 1600), (1605, 1610), (1623, 1623), (1608, 1630)] :=
 sl_box (xs := ([(1600, 1600), (1605, 1610), (1623, 1623), (1608, 1630)] : List (Int × Int))) h rfl rfl (fun _ => rfl) (by decide)
set_option maxRecDepth 100000 in
theorem printed_ok {F : Heap} (nm : ByteArray) (lo hi a b c : Int) : Ok Try.prog 95 [.string nm, .int .i64 lo, .int .i64 hi, .int .i64 a, .int .i64 b, .int .i64 c].toArray F fun u F' => ∃ v, u = .agg #[.string nm, .int .i64 lo, .int .i64 hi, v] ∧ Ints F' v [a, b, c] := by
 refine Ok.intro Try.func95 rfl Try.ntmps95 rfl fun w0 => ?_
 refine Af <| Ai fun ds => Bk rfl (Cd zr_64 rfl fun b1 hb1 nb1 => ?_)
 refine Ah <| Ab <| Af <| Ai fun ds => Aa rfl (Ag (Al rfl <| Aj rfl)) ?_
 refine Aa rfl (Ag (Ar rfl <| Aj rfl)) ?_
 refine Aa rfl (Ag (Ar rfl <| Al rfl <| Aj rfl)) ?_
 refine Aa rfl (Ex bt_60 (.cons (Al rfl <| Ae) rfl (.cons (Ae) rfl .nil)) (.cons rfl rfl (Nat.le_of_ble_eq_true rfl) (.cons (.here) .nil) (.cons rfl rfl (Nat.le_of_ble_eq_true rfl) (.cons (.next <| .here) .nil) .nil))) ?_
 refine Aa rfl (Ag (Az rfl <| Al rfl <| Aj rfl)) ?_
 refine Aa rfl (Ag (Az rfl <| Ar rfl <| Aj rfl)) ?_
 refine Aa rfl (Ag (Az rfl <| Ar rfl <| Al rfl <| Aj rfl)) ?_
 refine Bk rfl (B2 Be Db rfl (.cons (Ar rfl <| Ae) (.cons (Al rfl <| Ae) (.cons (Ae) .nil))) rfl rfl (by decide) (by simp [Value.oneCell']) fun b2 hb2 nb2 => ?_)
 refine B9 (i := 0) rfl hb2 .here fun F3 hF4 hz5 => ?_
 have hsl6 := ints_box3 hz5
 refine Aa rfl (Ex bt_64 (.cons (Az rfl <| Ar rfl <| Al rfl <| Ae) rfl (.cons (Az rfl <| Ae) rfl (.cons (Ae) rfl .nil))) (.cons rfl rfl (Nat.le_of_ble_eq_true rfl) (.cons (.here) .nil) (.cons rfl rfl (Nat.le_of_ble_eq_true rfl) (.cons (.next <| .here) (.cons (.next <| .next <| .here) .nil)) (.cons rfl rfl (Nat.le_of_ble_eq_true rfl) (.cons (.next <| .next <| .next <| .here) .nil) .nil)))) ?_
 refine Ck (Ch sz_64 (A7 rfl <| Al rfl <| Ae) (Ae) (i := 0) rfl rfl rfl rfl (by simp [Value.oneCell']) (.here) ?_)
 refine Ah <| Ab <| A4 <| Ay rfl (.agg agg_64 (A7 rfl <| Al rfl <| Ae) rfl rfl (A3 0 rfl) .nil) ?_
 exact ⟨_, rfl, hsl6⟩
set_option maxRecDepth 100000 in
theorem stemX_ok {F : Heap} : Ok Try.prog 39 [].toArray F fun u F' => ∃ vp ve ps, u = .agg #[vp, ve] ∧ StmR F' vp ve ps stemX := by
 refine Ok.intro Try.func39 rfl Try.ntmps39 rfl fun w0 => ?_
 refine Af <| Ai fun ds => Bk rfl (Cd zr_25 rfl fun b1 hb1 nb1 => ?_)
 refine Ah <| Ab <| Af <| Ai fun ds => Aa rfl (Ex bt_70 (.cons Ad rfl .nil) (.cons rfl rfl (Nat.le_of_ble_eq_true rfl) (.cons (.here) .nil) .nil)) ?_
 refine Aa rfl (Ex bt_70 (.cons Ad rfl (.cons Ad rfl .nil)) (.cons rfl rfl (Nat.le_of_ble_eq_true rfl) (.cons (.here) .nil) (.cons rfl rfl (Nat.le_of_ble_eq_true rfl) (.cons (.next <| .here) .nil) .nil))) ?_
 refine Aa rfl (Ex bt_70 (.cons Ad rfl .nil) (.cons rfl rfl (Nat.le_of_ble_eq_true rfl) (.cons (.here) .nil) .nil)) ?_
 refine Bk rfl (x_buildN (offs := [(0, 2), (2, 2), (4, 2)]) (zl := [.string ⟨#[]⟩, .int .i64 0, .string ⟨#[]⟩, .int .i64 0, .string ⟨#[]⟩, .int .i64 0]) Da zr_70 rfl (.cons (Ar rfl <| Ae) rfl (.cons (Al rfl <| Ae) rfl (.cons (Ae) rfl .nil))) (by intro i p h; rcases i with _ | _ | _ | i <;> simp at h <;> subst h <;> rfl) (.cons rfl rfl (Nat.le_of_ble_eq_true rfl) (.cons (.here) (.cons (.next <| .here) .nil)) (.cons rfl rfl (Nat.le_of_ble_eq_true rfl) (.cons (.next <| .next <| .here) (.cons (.next <| .next <| .next <| .here) .nil)) (.cons rfl rfl (Nat.le_of_ble_eq_true rfl) (.cons (.next <| .next <| .next <| .next <| .here) (.cons (.next <| .next <| .next <| .next <| .next <| .here) .nil)) .nil))) (by decide) (by decide) fun b2 hb2 nb2 => ?_)
 refine B9 (i := 0) rfl hb2 .here fun F3 hF4 hz5 => ?_
 have hsl6 := plcX_box3 hz5
 refine Bk rfl (B6 bd_95 A1 (.cons Ad (.cons Ad (.cons Ad (.cons Ad (.cons Ad (.cons Ad .nil)))))) (printed_ok _ _ _ _ _ _) fun v7 F8 hr9 hF10 => ?_)
 replace hsl6 := hsl6.mono hF10
 obtain ⟨vq1, rfl, hq1⟩ := hr9
 refine Bk rfl (B6 bd_95 A1 (.cons Ad (.cons Ad (.cons Ad (.cons Ad (.cons Ad (.cons Ad .nil)))))) (printed_ok _ _ _ _ _ _) fun v11 F12 hr13 hF14 => ?_)
 replace hsl6 := hsl6.mono hF14
 replace hq1 := hq1.mono hF14
 obtain ⟨vq2, rfl, hq2⟩ := hr13
 refine Bk rfl (B6 bd_95 A1 (.cons Ad (.cons Ad (.cons Ad (.cons Ad (.cons Ad (.cons Ad .nil)))))) (printed_ok _ _ _ _ _ _) fun v15 F16 hr17 hF18 => ?_)
 replace hsl6 := hsl6.mono hF18
 replace hq1 := hq1.mono hF18
 replace hq2 := hq2.mono hF18
 obtain ⟨vf1, rfl, hf1⟩ := hr17
 refine Bk rfl (B6 bd_95 A1 (.cons Ad (.cons Ad (.cons Ad (.cons Ad (.cons Ad (.cons Ad .nil)))))) (printed_ok _ _ _ _ _ _) fun v19 F20 hr21 hF22 => ?_)
 replace hsl6 := hsl6.mono hF22
 replace hq1 := hq1.mono hF22
 replace hq2 := hq2.mono hF22
 replace hf1 := hf1.mono hF22
 obtain ⟨vq3, rfl, hq3⟩ := hr21
 refine Bk rfl (x_buildN (offs := [(0, 4), (4, 4), (8, 4), (12, 4)]) (zl := [.string ⟨#[]⟩, .int .i64 0, .int .i64 0, .slice none 0 0, .string ⟨#[]⟩, .int .i64 0, .int .i64 0, .slice none 0 0, .string ⟨#[]⟩, .int .i64 0, .int .i64 0, .slice none 0 0, .string ⟨#[]⟩, .int .i64 0, .int .i64 0, .slice none 0 0]) B7 zr_64 rfl (.cons (Ar rfl <| Al rfl <| Ae) rfl (.cons (Ar rfl <| Ae) rfl (.cons (Al rfl <| Ae) rfl (.cons (Ae) rfl .nil)))) (by intro i p h; rcases i with _ | _ | _ | _ | i <;> simp at h <;> subst h <;> rfl) (.cons rfl rfl (Nat.le_of_ble_eq_true rfl) (.cons (.here) (.cons (.next <| .here) (.cons (.next <| .next <| .here) (.cons (.next <| .next <| .next <| .here) .nil)))) (.cons rfl rfl (Nat.le_of_ble_eq_true rfl) (.cons (.next <| .next <| .next <| .next <| .here) (.cons (.next <| .next <| .next <| .next <| .next <| .here) (.cons (.next <| .next <| .next <| .next <| .next <| .next <| .here) (.cons (.next <| .next <| .next <| .next <| .next <| .next <| .next <| .here) .nil)))) (.cons rfl rfl (Nat.le_of_ble_eq_true rfl) (.cons (.next <| .next <| .next <| .next <| .next <| .next <| .next <| .next <| .here) (.cons (.next <| .next <| .next <| .next <| .next <| .next <| .next <| .next <| .next <| .here) (.cons (.next <| .next <| .next <| .next <| .next <| .next <| .next <| .next <| .next <| .next <| .here) (.cons (.next <| .next <| .next <| .next <| .next <| .next <| .next <| .next <| .next <| .next <| .next <| .here) .nil)))) (.cons rfl rfl (Nat.le_of_ble_eq_true rfl) (.cons (.next <| .next <| .next <| .next <| .next <| .next <| .next <| .next <| .next <| .next <| .next <| .next <| .here) (.cons (.next <| .next <| .next <| .next <| .next <| .next <| .next <| .next <| .next <| .next <| .next <| .next <| .next <| .here) (.cons (.next <| .next <| .next <| .next <| .next <| .next <| .next <| .next <| .next <| .next <| .next <| .next <| .next <| .next <| .here) (.cons (.next <| .next <| .next <| .next <| .next <| .next <| .next <| .next <| .next <| .next <| .next <| .next <| .next <| .next <| .next <| .here) .nil)))) .nil)))) (by decide) (by decide) fun b23 hb23 nb23 => ?_)
 refine B9 (i := 0) rfl hb23 .here fun F24 hF25 hz26 => ?_
 replace hsl6 := hsl6.mono hF25
 replace hq1 := hq1.mono hF25
 replace hq2 := hq2.mono hF25
 replace hf1 := hf1.mono hF25
 replace hq3 := hq3.mono hF25
 have hsl27 := ednX_box4 hz26
 refine Aa rfl (Ex bt_25 (.cons (Az rfl <| Al rfl <| Ae) rfl (.cons (Ae) rfl .nil)) (.cons rfl rfl (Nat.le_of_ble_eq_true rfl) (.cons (.here) .nil) (.cons rfl rfl (Nat.le_of_ble_eq_true rfl) (.cons (.next <| .here) .nil) .nil))) ?_
 refine Ck (Ch sz_25 (A7 rfl <| Ar rfl <| Ae) (Ae) (i := 0) rfl rfl rfl rfl (by simp [Value.oneCell']) (.here) ?_)
 refine Ah <| Ab <| A4 <| Ay rfl (.agg Bw (A7 rfl <| Ar rfl <| Ae) rfl rfl (A3 0 rfl) .nil) ?_
 refine ⟨_, _, [(vq1, edQ1), (vq2, edQ2), (vf1, edF1), (vq3, edQ3)], rfl, ⟨hsl6, hsl27, ?_, rfl⟩⟩
 intro p hp
 simp only [List.mem_cons, List.not_mem_nil, or_false] at hp
 rcases hp with rfl | rfl | rfl | rfl
 · exact hq1
 · exact hq2
 · exact hf1
 · exact hq3
set_option maxRecDepth 100000 in
theorem awake_ok {F : Heap} : Ok Try.prog 26 [].toArray F fun u _ => u = .bool true := by
 refine Ok.intro Try.func26 rfl Try.ntmps26 rfl fun w0 => ?_
 refine Af <| Ai fun ds => Aa rfl (Ac Ad) ?_
 refine Ah <| Ab <| Af <| Ai fun ds => Bk rfl (B6 bd_39 A1 .nil stemX_ok fun v1 F2 hr3 hF4 => ?_)
 obtain ⟨vp, ve, ps, rfl, hr⟩ := hr3
 refine Bk rfl (Cd zr_25 rfl fun b5 hb5 nb5 => ?_)
 refine Ck (Ch sz_25 (Ae) (Al rfl <| Ae) (i := 0) rfl rfl rfl rfl hr.ones (.here) ?_)
 refine Ah <| Ab <| Af <| Ai fun ds => Bk rfl (B2 Be Db rfl (.cons Ad (.cons Ad (.cons Ad (.cons Ad .nil)))) rfl rfl (by decide) (by simp [Value.oneCell']) fun b6 hb6 nb6 => ?_)
 refine B9 (i := 0) rfl hb6 .here fun F7 hF8 hz9 => ?_
 replace hr := hr.mono hF8
 have hsl10 := ints_box4 hz9
 refine Aa rfl (Ac (Ae)) ?_
 refine Ah <| Ab <| Af <| Ai fun ds => Aa rfl (A8 Bw (Ar rfl <| Ae) rfl rfl (A3 0 rfl)) ?_
 refine Bk rfl (B6 bd_18 A1 (.cons (Ae) (.cons Ad (.cons Ad .nil))) ((apart_top_ok hr 0 2).mono fun u F2 _ h => (by rw [ev_p1] at h; exact h : ∃ ws, u = .tuple #[ws, .int .i64 0] ∧ Nats F2 ws [0, 1])) fun v11 F12 hr13 hF14 => ?_)
 replace hr := hr.mono hF14
 replace hsl10 := hsl10.mono hF14
 obtain ⟨hq1_, rfl, hq1⟩ := hr13
 refine Aa rfl (Ag (Ae)) ?_
 refine Aa rfl (Ax (Ae) rfl) ?_
 refine Aa rfl (Ax (Al rfl <| Ae) rfl) ?_
 refine Aa rfl (Ac (Al rfl <| Ae)) ?_
 refine Aa rfl (Ac (Al rfl <| Ae)) ?_
 refine Ah <| Ab <| Af <| Ai fun ds => Aa rfl (A8 Bw (A7 rfl <| Al rfl <| Ae) rfl rfl (A3 0 rfl)) ?_
 refine Bk rfl (B2 Be Db rfl (.cons Ad (.cons Ad (.cons Ad (.cons Ad .nil)))) rfl rfl (by decide) (by simp [Value.oneCell']) fun b15 hb15 nb15 => ?_)
 refine B9 (i := 0) rfl hb15 .here fun F16 hF17 hz18 => ?_
 replace hr := hr.mono hF17
 replace hsl10 := hsl10.mono hF17
 replace hq1 := hq1.mono hF17
 have hsl19 := ints_box4 hz18
 refine B0 rfl (Bj bd_21 A1 (.cons (Al rfl <| Ae) (.cons (Ae) .nil)) (changes_top_ok hr (l := starX) hsl19) (fun _ _ h => h.trans (show _ = Value.tuple #[.int .i64 4, .int .i64 0] by unfold changesEV; rw [ev_c1]))) ?_
 refine Aa rfl (Ag (Ae)) ?_
 refine Aa rfl (Ax (Ae) rfl) ?_
 refine Aa rfl (Ax (Al rfl <| Ae) rfl) ?_
 refine Aa rfl (Ac (Al rfl <| Ae)) ?_
 refine Aa rfl (Ac (Al rfl <| Ae)) ?_
 refine Ah <| Ab <| Af <| Ai fun ds => Aa rfl (A8 Bw (A5 rfl <| Al rfl <| Ae) rfl rfl (A3 0 rfl)) ?_
 refine Bk rfl (B2 Be Db rfl (.cons Ad (.cons Ad (.cons Ad (.cons Ad .nil)))) rfl rfl (by decide) (by simp [Value.oneCell']) fun b20 hb20 nb20 => ?_)
 refine B9 (i := 0) rfl hb20 .here fun F21 hF22 hz23 => ?_
 replace hr := hr.mono hF22
 replace hsl10 := hsl10.mono hF22
 replace hq1 := hq1.mono hF22
 have hsl24 := ints_box4 hz23
 refine B0 rfl (Bj bd_21 A1 (.cons (Al rfl <| Ae) (.cons (Ae) .nil)) (changes_top_ok hr (l := lineX) hsl24) (fun _ _ h => h.trans (show _ = Value.tuple #[.int .i64 0, .int .i64 9] by unfold changesEV; rw [ev_c2]))) ?_
 refine Aa rfl (Ag (Ae)) ?_
 refine Aa rfl (Ax (Ae) rfl) ?_
 refine Aa rfl (Ax (Al rfl <| Ae) rfl) ?_
 refine Aa rfl (Ac (Al rfl <| Ae)) ?_
 refine Aa rfl (Ac (Al rfl <| Ae)) ?_
 refine Ah <| Ab <| Af <| Ai fun ds => Aa rfl (A8 Bw (A5 rfl <| A7 rfl <| Al rfl <| Ae) rfl rfl (A3 0 rfl)) ?_
 refine Bk rfl (B2 Be Db rfl (.cons Ad (.cons Ad (.cons Ad (.cons Ad .nil)))) rfl rfl (by decide) (by simp [Value.oneCell']) fun b25 hb25 nb25 => ?_)
 refine B9 (i := 0) rfl hb25 .here fun F26 hF27 hz28 => ?_
 replace hr := hr.mono hF27
 replace hsl10 := hsl10.mono hF27
 replace hq1 := hq1.mono hF27
 have hsl29 := ints_box4 hz28
 refine Bk rfl (B6 bd_23 A1 (.cons (Al rfl <| Ae) (.cons (Ae) .nil)) ((years_top_ok hr (l := twoX) hsl29).mono fun u F2 _ h => (by rw [ev_y1] at h; exact h : ∃ ws, u = .tuple #[ws, .int .i64 0] ∧ (fun F v l => Sl F v 2 spanE l) F2 ws [(1600, 1600), (1605, 1610), (1623, 1623), (1608, 1630)])) fun v30 F31 hr32 hF33 => ?_)
 replace hr := hr.mono hF33
 replace hsl10 := hsl10.mono hF33
 replace hq1 := hq1.mono hF33
 obtain ⟨hq2_, rfl, hq2⟩ := hr32
 refine Aa rfl (Ag (Ae)) ?_
 refine Aa rfl (Ax (Ae) rfl) ?_
 refine Aa rfl (Ax (Al rfl <| Ae) rfl) ?_
 refine Aa rfl (Ac (Al rfl <| Ae)) ?_
 refine Aa rfl (Ac (Al rfl <| Ae)) ?_
 refine Ah <| Ab <| Af <| Ai fun ds => Aa rfl (A8 Bw (Bq rfl <| Al rfl <| Ae) rfl rfl (A3 0 rfl)) ?_
 refine Bk rfl (B6 bd_27 A1 (.cons (Ae) .nil) ((best_top_ok hr).mono fun u F2 _ h => (by rw [ev_b1] at h; exact h : ∃ ws, u = .tuple #[ws, .int .i64 3, .int .i64 2, .int .i64 0] ∧ Ints F2 ws bestX)) fun v34 F35 hr36 hF37 => ?_)
 replace hr := hr.mono hF37
 replace hsl10 := hsl10.mono hF37
 replace hq1 := hq1.mono hF37
 replace hq2 := hq2.mono hF37
 obtain ⟨hq3_, rfl, hq3⟩ := hr36
 refine Aa rfl (Ag (Ae)) ?_
 refine Aa rfl (Ax (Ae) rfl) ?_
 refine Aa rfl (Ax (Al rfl <| Ae) rfl) ?_
 refine Aa rfl (Ax (Ar rfl <| Ae) rfl) ?_
 refine Aa rfl (Ax (Ar rfl <| Al rfl <| Ae) rfl) ?_
 refine Aa rfl (Ac (Ar rfl <| Al rfl <| Ae)) ?_
 refine Aa rfl (Ac (Ar rfl <| Al rfl <| Ae)) ?_
 refine Aa rfl (Ac (Ar rfl <| Al rfl <| Ae)) ?_
 refine Aa rfl (Ac (Ar rfl <| Al rfl <| Ae)) ?_
 refine Ah <| Ab <| Af <| Ai fun ds => Aa rfl (A8 Bw (Bq rfl <| A7 rfl <| Az rfl <| Ae) rfl rfl (A3 0 rfl)) ?_
 refine Bk rfl (B6 bd_29 A1 (.cons (Ae) .nil) ((first_top_ok hr).mono fun u F2 _ h => (by rw [ev_f1] at h; exact h : ∃ ws, u = .tuple #[ws, .int .i64 0] ∧ Nats F2 ws [0])) fun v38 F39 hr40 hF41 => ?_)
 replace hr := hr.mono hF41
 replace hsl10 := hsl10.mono hF41
 replace hq1 := hq1.mono hF41
 replace hq2 := hq2.mono hF41
 replace hq3 := hq3.mono hF41
 obtain ⟨hq4_, rfl, hq4⟩ := hr40
 refine Aa rfl (Ag (Ae)) ?_
 refine Aa rfl (Ax (Ae) rfl) ?_
 refine Aa rfl (Ax (Al rfl <| Ae) rfl) ?_
 refine Aa rfl (Ac (Al rfl <| Ae)) ?_
 refine Aa rfl (Ac (Al rfl <| Ae)) ?_
 refine Ah <| Ab <| Af <| Ai fun ds => Aa rfl (A8 Bw (Bq rfl <| A5 rfl <| Ar rfl <| Al rfl <| Ae) rfl rfl (A3 0 rfl)) ?_
 refine B0 rfl (Bj bd_31 A1 (.cons (Ae) (.cons Ad (.cons Ad .nil))) (from_top_ok hr 1 2) (fun _ _ h => h.trans (show _ = Value.tuple #[.int .i64 1, .int .i64 0] by unfold fromV; rw [ev_m1]))) ?_
 refine Aa rfl (Ag (Ae)) ?_
 refine Aa rfl (Ax (Ae) rfl) ?_
 refine Aa rfl (Ax (Al rfl <| Ae) rfl) ?_
 refine Aa rfl (Ac (Al rfl <| Ae)) ?_
 refine Aa rfl (Ac (Al rfl <| Ae)) ?_
 refine Ah <| Ab <| Af <| Ai fun ds => Aa rfl (A8 Bw (Bq rfl <| A5 rfl <| A7 rfl <| Ar rfl <| Ae) rfl rfl (A3 0 rfl)) ?_
 refine Aa rfl (Ag (Bq rfl <| A5 rfl <| A7 rfl <| Al rfl <| Ae)) ?_
 refine Bk rfl (B6 bd_35 A1 (.cons (Al rfl <| Ae) (.cons (Ae) (.cons Ad (.cons Ad .nil)))) ((reading_top_ok hr (l := bestX) hsl10 3 0).mono fun u F2 _ h => (by rw [ev_r1] at h; exact h : ∃ ws, u = .tuple #[ws, .int .i64 0] ∧ Ints F2 ws [1])) fun v42 F43 hr44 hF45 => ?_)
 replace hr := hr.mono hF45
 replace hsl10 := hsl10.mono hF45
 replace hq1 := hq1.mono hF45
 replace hq2 := hq2.mono hF45
 replace hq3 := hq3.mono hF45
 replace hq4 := hq4.mono hF45
 obtain ⟨hq5_, rfl, hq5⟩ := hr44
 refine Aa rfl (Ag (Ae)) ?_
 refine Aa rfl (Ax (Ae) rfl) ?_
 refine Aa rfl (Ax (Al rfl <| Ae) rfl) ?_
 refine Aa rfl (Ac (Al rfl <| Ae)) ?_
 refine Aa rfl (Ac (Al rfl <| Ae)) ?_
 refine Ah <| Ab <| Af <| Ai fun ds => Aa rfl (A8 Bw (Bq rfl <| Bq rfl <| Ar rfl <| Ae) rfl rfl (A3 0 rfl)) ?_
 refine Bk rfl (B6 bd_33 A1 (.cons (Ae) .nil) ((clean_top_ok hr).mono fun u F2 _ h => (by rw [ev_l1] at h; exact h : ∃ ws, u = .tuple #[ws, .int .i64 0] ∧ Nats F2 ws [])) fun v46 F47 hr48 hF49 => ?_)
 replace hr := hr.mono hF49
 replace hsl10 := hsl10.mono hF49
 replace hq1 := hq1.mono hF49
 replace hq2 := hq2.mono hF49
 replace hq3 := hq3.mono hF49
 replace hq4 := hq4.mono hF49
 replace hq5 := hq5.mono hF49
 obtain ⟨hq6_, rfl, hq6⟩ := hr48
 refine Aa rfl (Ag (Ae)) ?_
 refine Aa rfl (Ax (Ae) rfl) ?_
 refine Aa rfl (Ax (Al rfl <| Ae) rfl) ?_
 refine Aa rfl (Ac (Al rfl <| Ae)) ?_
 refine Aa rfl (Ac (Al rfl <| Ae)) ?_
 refine Ah <| Ab <| Af <| Ai fun ds => Aa rfl (A8 Bw (Bq rfl <| Bq rfl <| A7 rfl <| Al rfl <| Ae) rfl rfl (A3 0 rfl)) ?_
 refine Bk rfl (B2 Be Db rfl (.cons Ad (.cons Ad (.cons Ad (.cons Ad .nil)))) rfl rfl (by decide) (by simp [Value.oneCell']) fun b50 hb50 nb50 => ?_)
 refine B9 (i := 0) rfl hb50 .here fun F51 hF52 hz53 => ?_
 replace hr := hr.mono hF52
 replace hsl10 := hsl10.mono hF52
 replace hq1 := hq1.mono hF52
 replace hq2 := hq2.mono hF52
 replace hq3 := hq3.mono hF52
 replace hq4 := hq4.mono hF52
 replace hq5 := hq5.mono hF52
 replace hq6 := hq6.mono hF52
 have hsl54 := ints_box4 hz53
 refine B0 rfl (Bj bd_37 A1 (.cons (Al rfl <| Ae) (.cons (Ae) (.cons Ad .nil))) (second_top_ok hr (l := starX) hsl54 2) (fun _ _ h => h.trans (show _ = Value.tuple #[.int .i64 1, .int .i64 1, .int .i64 0] by unfold secV; rw [ev_s1]))) ?_
 refine Aa rfl (Ag (Ae)) ?_
 refine Aa rfl (Ax (Ae) rfl) ?_
 refine Aa rfl (Ax (Al rfl <| Ae) rfl) ?_
 refine Aa rfl (Ax (Ar rfl <| Ae) rfl) ?_
 refine Aa rfl (Ac (Ar rfl <| Ae)) ?_
 refine Aa rfl (Ac (Ar rfl <| Ae)) ?_
 refine Aa rfl (Ac (Ar rfl <| Ae)) ?_
 refine Ah <| Ab <| Af <| Ai fun ds => Aa rfl (A8 Bw (Bq rfl <| Bq rfl <| A5 rfl <| Ar rfl <| Al rfl <| Ae) rfl rfl (A3 0 rfl)) ?_
 refine Aa rfl (Ag (Bq rfl <| Bq rfl <| A5 rfl <| Ar rfl <| Ae)) ?_
 refine B0 rfl (Bj bd_37 A1 (.cons (Al rfl <| Ae) (.cons (Ae) (.cons Ad .nil))) (second_top_ok hr (l := bestX) hsl10 2) (fun _ _ h => h.trans (show _ = Value.tuple #[.int .i64 0, .int .i64 0, .int .i64 8] by unfold secV; rw [ev_s2]))) ?_
 refine Aa rfl (Ag (Ae)) ?_
 refine Aa rfl (Ax (Ae) rfl) ?_
 refine Aa rfl (Ax (Al rfl <| Ae) rfl) ?_
 refine Aa rfl (Ax (Ar rfl <| Ae) rfl) ?_
 refine Aa rfl (Ac (Ar rfl <| Ae)) ?_
 refine Aa rfl (Ac (Ar rfl <| Ae)) ?_
 refine Aa rfl (Ac (Ar rfl <| Ae)) ?_
 refine Ah <| Ab <| Af <| Ai fun ds => Aa rfl (Ag (Bq rfl <| Bq rfl <| A5 rfl <| Az rfl <| Ae)) ?_
 refine Aa rfl (Bx (Ae) Ad) ?_
 refine Aa rfl (Ag (Ae)) ?_
 refine At rfl rfl (Ae) (by first | rfl | decide) ?_
 refine Aa rfl (Ag (Bq rfl <| Bq rfl <| A7 rfl <| Az rfl <| Ar rfl <| Al rfl <| Ae)) ?_
 refine At rfl rfl (Al rfl <| Ae) (by first | rfl | decide) ?_
 refine Aa rfl (Bx (Ae) Ad) ?_
 refine Aa rfl (A6 (Ar rfl <| Ae) (by first | rfl | decide) (Ae)) ?_
 refine Aa rfl (Ag (Ae)) ?_
 refine At rfl rfl (Ae) (by first | rfl | decide) ?_
 refine Aa rfl (Ag (Bq rfl <| Bq rfl <| Ar rfl <| Al rfl <| Ae)) ?_
 refine At rfl rfl (Al rfl <| Ae) (by first | rfl | decide) ?_
 refine Aa rfl (Bx (Ae) Ad) ?_
 refine Aa rfl (A6 (Ar rfl <| Ae) (by first | rfl | decide) (Ae)) ?_
 refine Aa rfl (Ag (Ae)) ?_
 refine At rfl rfl (Ae) (by first | rfl | decide) ?_
 refine Aa rfl (Ag (Bq rfl <| A5 rfl <| A7 rfl <| Az rfl <| Ae)) ?_
 refine At rfl rfl (Al rfl <| Ae) (by first | rfl | decide) ?_
 refine Aa rfl (Bx (Ae) Ad) ?_
 refine Aa rfl (A6 (Ar rfl <| Ae) (by first | rfl | decide) (Ae)) ?_
 refine Aa rfl (Ag (Ae)) ?_
 refine At rfl rfl (Ae) (by first | rfl | decide) ?_
 refine Aa rfl (Ag (Bq rfl <| A5 rfl <| A7 rfl <| Al rfl <| Ae)) ?_
 refine At rfl rfl (Al rfl <| Ae) (by first | rfl | decide) ?_
 refine Aa rfl (Bx (Ae) Ad) ?_
 refine Aa rfl (A6 (Ar rfl <| Ae) (by first | rfl | decide) (Ae)) ?_
 refine Aa rfl (Ag (Ae)) ?_
 refine At rfl rfl (Ae) (by first | rfl | decide) ?_
 refine Aa rfl (Ag (Bq rfl <| A5 rfl <| Az rfl <| Ar rfl <| Ae)) ?_
 refine At rfl rfl (Al rfl <| Ae) (by first | rfl | decide) ?_
 refine Aa rfl (Bx (Ae) Ad) ?_
 refine Aa rfl (A6 (Ar rfl <| Ae) (by first | rfl | decide) (Ae)) ?_
 refine Aa rfl (Ag (Ae)) ?_
 refine At rfl rfl (Ae) (by first | rfl | decide) ?_
 refine Aa rfl (Ag (Bq rfl <| A5 rfl <| Ar rfl <| Ae)) ?_
 refine At rfl rfl (Al rfl <| Ae) (by first | rfl | decide) ?_
 refine Aa rfl (Bx (Ae) Ad) ?_
 refine Aa rfl (A6 (Ar rfl <| Ae) (by first | rfl | decide) (Ae)) ?_
 refine Aa rfl (Ag (Ae)) ?_
 refine At rfl rfl (Ae) (by first | rfl | decide) ?_
 refine Aa rfl (Ag (Bq rfl <| A7 rfl <| Az rfl <| Ar rfl <| Al rfl <| Ae)) ?_
 refine At rfl rfl (Al rfl <| Ae) (by first | rfl | decide) ?_
 refine Aa rfl (Bx (Ae) Ad) ?_
 refine Aa rfl (A6 (Ar rfl <| Ae) (by first | rfl | decide) (Ae)) ?_
 refine Aa rfl (Ag (Ae)) ?_
 refine At rfl rfl (Ae) (by first | rfl | decide) ?_
 refine Aa rfl (Ag (Bq rfl <| A7 rfl <| Al rfl <| Ae)) ?_
 refine At rfl rfl (Al rfl <| Ae) (by first | rfl | decide) ?_
 refine Aa rfl (Bx (Ae) Ad) ?_
 refine Aa rfl (A6 (Ar rfl <| Ae) (by first | rfl | decide) (Ae)) ?_
 refine Aa rfl (Ag (Ae)) ?_
 refine At rfl rfl (Ae) (by first | rfl | decide) ?_
 refine Aa rfl (Ag (Bq rfl <| Bq rfl <| Bq rfl <| Az rfl <| Ar rfl <| Al rfl <| Ae)) ?_
 refine At rfl rfl (Al rfl <| Ae) (by first | rfl | decide) ?_
 refine Aa rfl (Bx (Ae) Ad) ?_
 refine Aa rfl (A6 (Ar rfl <| Ae) (by first | rfl | decide) (Ae)) ?_
 refine Aa rfl (Ag (Ae)) ?_
 refine At rfl rfl (Ae) (by first | rfl | decide) ?_
 refine Aa rfl (Ag (Bq rfl <| Az rfl <| Ar rfl <| Al rfl <| Ae)) ?_
 refine At rfl rfl (Al rfl <| Ae) (by first | rfl | decide) ?_
 refine Aa rfl (Bx (Ae) Ad) ?_
 refine Aa rfl (A6 (Ar rfl <| Ae) (by first | rfl | decide) (Ae)) ?_
 refine Aa rfl (Ag (Ae)) ?_
 refine At rfl rfl (Ae) (by first | rfl | decide) ?_
 refine Aa rfl (Ag (Bq rfl <| Bq rfl <| Bq rfl <| Bq rfl <| Ae)) ?_
 refine At rfl rfl (Al rfl <| Ae) (by first | rfl | decide) ?_
 refine Bk rfl (B2 Be Db rfl (.cons Ad (.cons Ad .nil)) rfl rfl (by decide) (by simp [Value.oneCell']) fun b55 hb55 nb55 => ?_)
 refine B9 (i := 0) rfl hb55 .here fun F56 hF57 hz58 => ?_
 replace hsl10 := hsl10.mono hF57
 replace hq1 := hq1.mono hF57
 replace hq2 := hq2.mono hF57
 replace hq3 := hq3.mono hF57
 replace hq4 := hq4.mono hF57
 replace hq5 := hq5.mono hF57
 replace hq6 := hq6.mono hF57
 have hsl59 := ints_box2 hz58
 refine At rfl rfl (Ar rfl <| Ae) (by first | rfl | decide) ?_
 refine B0 rfl (Bj bd_20 A1 (.cons (Al rfl <| Ae) (.cons (Ae) .nil)) (Ej (Nats.ints hq1) hsl59) (fun _ _ h => h)) ?_
 refine Aa rfl (A6 (Ar rfl <| Al rfl <| Ae) (by first | rfl | decide) (Ae)) ?_
 refine Aa rfl (Ag (Ae)) ?_
 refine At rfl rfl (Ae) (by first | rfl | decide) ?_
 refine Aa rfl (Ag (Bq rfl <| Bq rfl <| Bq rfl <| A5 rfl <| A7 rfl <| Az rfl <| Al rfl <| Ae)) ?_
 refine At rfl rfl (Al rfl <| Ae) (by first | rfl | decide) ?_
 refine Aa rfl (Bx (Ae) Ad) ?_
 refine Aa rfl (A6 (Ar rfl <| Ae) (by first | rfl | decide) (Ae)) ?_
 refine Aa rfl (Ag (Ae)) ?_
 refine At rfl rfl (Ae) (by first | rfl | decide) ?_
 refine Aa rfl (Ag (Bq rfl <| Bq rfl <| Bq rfl <| A5 rfl <| Al rfl <| Ae)) ?_
 refine At rfl rfl (Al rfl <| Ae) (by first | rfl | decide) ?_
 refine Aa rfl (Ex bt_60 (.cons Ad rfl (.cons Ad rfl .nil)) (.cons rfl rfl (Nat.le_of_ble_eq_true rfl) (.cons (.here) .nil) (.cons rfl rfl (Nat.le_of_ble_eq_true rfl) (.cons (.next <| .here) .nil) .nil))) ?_
 refine At rfl rfl (Ar rfl <| Ae) (by first | rfl | decide) ?_
 refine Aa rfl (Ex bt_60 (.cons Ad rfl (.cons Ad rfl .nil)) (.cons rfl rfl (Nat.le_of_ble_eq_true rfl) (.cons (.here) .nil) (.cons rfl rfl (Nat.le_of_ble_eq_true rfl) (.cons (.next <| .here) .nil) .nil))) ?_
 refine At rfl rfl (Ar rfl <| Al rfl <| Ae) (by first | rfl | decide) ?_
 refine Aa rfl (Ex bt_60 (.cons Ad rfl (.cons Ad rfl .nil)) (.cons rfl rfl (Nat.le_of_ble_eq_true rfl) (.cons (.here) .nil) (.cons rfl rfl (Nat.le_of_ble_eq_true rfl) (.cons (.next <| .here) .nil) .nil))) ?_
 refine At rfl rfl (Az rfl <| Ae) (by first | rfl | decide) ?_
 refine Aa rfl (Ex bt_60 (.cons Ad rfl (.cons Ad rfl .nil)) (.cons rfl rfl (Nat.le_of_ble_eq_true rfl) (.cons (.here) .nil) (.cons rfl rfl (Nat.le_of_ble_eq_true rfl) (.cons (.next <| .here) .nil) .nil))) ?_
 refine At rfl rfl (Az rfl <| Al rfl <| Ae) (by first | rfl | decide) ?_
 refine Bk rfl (x_buildN (offs := [(0, 2), (2, 2), (4, 2), (6, 2)]) (zl := [.int .i64 0, .int .i64 0, .int .i64 0, .int .i64 0, .int .i64 0, .int .i64 0, .int .i64 0, .int .i64 0]) Et zr_60 rfl (.cons (Ar rfl <| Al rfl <| Ae) rfl (.cons (Ar rfl <| Ae) rfl (.cons (Al rfl <| Ae) rfl (.cons (Ae) rfl .nil)))) (by intro i p h; rcases i with _ | _ | _ | _ | i <;> simp at h <;> subst h <;> rfl) (.cons rfl rfl (Nat.le_of_ble_eq_true rfl) (.cons (.here) (.cons (.next <| .here) .nil)) (.cons rfl rfl (Nat.le_of_ble_eq_true rfl) (.cons (.next <| .next <| .here) (.cons (.next <| .next <| .next <| .here) .nil)) (.cons rfl rfl (Nat.le_of_ble_eq_true rfl) (.cons (.next <| .next <| .next <| .next <| .here) (.cons (.next <| .next <| .next <| .next <| .next <| .here) .nil)) (.cons rfl rfl (Nat.le_of_ble_eq_true rfl) (.cons (.next <| .next <| .next <| .next <| .next <| .next <| .here) (.cons (.next <| .next <| .next <| .next <| .next <| .next <| .next <| .here) .nil)) .nil)))) (by decide) (by decide) fun b60 hb60 nb60 => ?_)
 refine B9 (i := 0) rfl hb60 .here fun F61 hF62 hz63 => ?_
 replace hsl10 := hsl10.mono hF62
 replace hq2 := hq2.mono hF62
 replace hq3 := hq3.mono hF62
 replace hq4 := hq4.mono hF62
 replace hq5 := hq5.mono hF62
 replace hq6 := hq6.mono hF62
 have hsl64 := spansX_box4 hz63
 refine At rfl rfl (Az rfl <| Ar rfl <| Ae) (by first | rfl | decide) ?_
 refine B0 rfl (Bj bd_25 A1 (.cons (Az rfl <| Al rfl <| Ae) (.cons (Ae) .nil)) (refSpans_ok hq2 hsl64) (fun _ _ h => h)) ?_
 refine Aa rfl (A6 (Az rfl <| Ar rfl <| Al rfl <| Ae) (by first | rfl | decide) (Ae)) ?_
 refine Aa rfl (Ag (Ae)) ?_
 refine At rfl rfl (Ae) (by first | rfl | decide) ?_
 refine Aa rfl (Ag (Bq rfl <| Bq rfl <| Bq rfl <| A5 rfl <| Al rfl <| Ae)) ?_
 refine At rfl rfl (Al rfl <| Ae) (by first | rfl | decide) ?_
 refine Aa rfl (Ag (Bq rfl <| Bq rfl <| Bq rfl <| Bq rfl <| A5 rfl <| A7 rfl <| Al rfl <| Ae)) ?_
 refine At rfl rfl (Ar rfl <| Ae) (by first | rfl | decide) ?_
 refine B0 rfl (Bj bd_20 A1 (.cons (Al rfl <| Ae) (.cons (Ae) .nil)) (Ej hq3 hsl10) (fun _ _ h => h)) ?_
 refine Aa rfl (A6 (Ar rfl <| Al rfl <| Ae) (by first | rfl | decide) (Ae)) ?_
 refine Aa rfl (Ag (Ae)) ?_
 refine At rfl rfl (Ae) (by first | rfl | decide) ?_
 refine Aa rfl (Ag (Bq rfl <| Bq rfl <| Bq rfl <| A5 rfl <| Az rfl <| Al rfl <| Ae)) ?_
 refine At rfl rfl (Al rfl <| Ae) (by first | rfl | decide) ?_
 refine Aa rfl (Bx (Ae) Ad) ?_
 refine Aa rfl (A6 (Ar rfl <| Ae) (by first | rfl | decide) (Ae)) ?_
 refine Aa rfl (Ag (Ae)) ?_
 refine At rfl rfl (Ae) (by first | rfl | decide) ?_
 refine Aa rfl (Ag (Bq rfl <| Bq rfl <| Bq rfl <| A5 rfl <| A7 rfl <| Ae)) ?_
 refine At rfl rfl (Al rfl <| Ae) (by first | rfl | decide) ?_
 refine Aa rfl (Bx (Ae) Ad) ?_
 refine Aa rfl (A6 (Ar rfl <| Ae) (by first | rfl | decide) (Ae)) ?_
 refine Aa rfl (Ag (Ae)) ?_
 refine At rfl rfl (Ae) (by first | rfl | decide) ?_
 refine Aa rfl (Ag (Bq rfl <| Bq rfl <| Bq rfl <| A5 rfl <| Az rfl <| Al rfl <| Ae)) ?_
 refine At rfl rfl (Al rfl <| Ae) (by first | rfl | decide) ?_
 refine Bk rfl (B2 Be Db rfl (.cons Ad .nil) rfl rfl (by decide) (by simp [Value.oneCell']) fun b65 hb65 nb65 => ?_)
 refine B9 (i := 0) rfl hb65 .here fun F66 hF67 hz68 => ?_
 replace hq4 := hq4.mono hF67
 replace hq5 := hq5.mono hF67
 replace hq6 := hq6.mono hF67
 have hsl69 := C4 hz68
 refine At rfl rfl (Ar rfl <| Ae) (by first | rfl | decide) ?_
 refine B0 rfl (Bj bd_20 A1 (.cons (Al rfl <| Ae) (.cons (Ae) .nil)) (Ej (Nats.ints hq4) hsl69) (fun _ _ h => h)) ?_
 refine Aa rfl (A6 (Ar rfl <| Al rfl <| Ae) (by first | rfl | decide) (Ae)) ?_
 refine Aa rfl (Ag (Ae)) ?_
 refine At rfl rfl (Ae) (by first | rfl | decide) ?_
 refine Aa rfl (Ag (Bq rfl <| Bq rfl <| Bq rfl <| A5 rfl <| Ar rfl <| Al rfl <| Ae)) ?_
 refine At rfl rfl (Al rfl <| Ae) (by first | rfl | decide) ?_
 refine Aa rfl (Bx (Ae) Ad) ?_
 refine Aa rfl (A6 (Ar rfl <| Ae) (by first | rfl | decide) (Ae)) ?_
 refine Aa rfl (Ag (Ae)) ?_
 refine At rfl rfl (Ae) (by first | rfl | decide) ?_
 refine Aa rfl (Ag (Bq rfl <| Bq rfl <| Bq rfl <| A7 rfl <| Az rfl <| Ar rfl <| Al rfl <| Ae)) ?_
 refine At rfl rfl (Al rfl <| Ae) (by first | rfl | decide) ?_
 refine Bk rfl (B2 Be Db rfl (.cons Ad .nil) rfl rfl (by decide) (by simp [Value.oneCell']) fun b70 hb70 nb70 => ?_)
 refine B9 (i := 0) rfl hb70 .here fun F71 hF72 hz73 => ?_
 replace hq5 := hq5.mono hF72
 replace hq6 := hq6.mono hF72
 have hsl74 := C4 hz73
 refine At rfl rfl (Ar rfl <| Ae) (by first | rfl | decide) ?_
 refine B0 rfl (Bj bd_20 A1 (.cons (Al rfl <| Ae) (.cons (Ae) .nil)) (Ej hq5 hsl74) (fun _ _ h => h)) ?_
 refine Aa rfl (A6 (Ar rfl <| Al rfl <| Ae) (by first | rfl | decide) (Ae)) ?_
 refine Aa rfl (Ag (Ae)) ?_
 refine At rfl rfl (Ae) (by first | rfl | decide) ?_
 refine Aa rfl (Ag (Bq rfl <| Bq rfl <| Bq rfl <| A7 rfl <| Az rfl <| Al rfl <| Ae)) ?_
 refine At rfl rfl (Al rfl <| Ae) (by first | rfl | decide) ?_
 refine Aa rfl (Bh Be (Ae) hq6.plain) ?_
 refine At rfl rfl (Ar rfl <| Ae) (by first | rfl | decide) ?_
 refine Aa rfl (Bx (Ae) Ad) ?_
 refine Aa rfl (A6 (Ar rfl <| Al rfl <| Ae) (by first | rfl | decide) (Ae)) ?_
 refine Aa rfl (Ag (Ae)) ?_
 refine At rfl rfl (Ae) (by first | rfl | decide) ?_
 refine Aa rfl (Ag (Bq rfl <| Bq rfl <| Bq rfl <| A7 rfl <| Al rfl <| Ae)) ?_
 refine At rfl rfl (Al rfl <| Ae) (by first | rfl | decide) ?_
 refine Aa rfl (Bx (Ae) Ad) ?_
 refine Aa rfl (A6 (Ar rfl <| Ae) (by first | rfl | decide) (Ae)) ?_
 refine Aa rfl (Ag (Ae)) ?_
 refine At rfl rfl (Ae) (by first | rfl | decide) ?_
 refine Aa rfl (Ag (Bq rfl <| Bq rfl <| Bq rfl <| A7 rfl <| Az rfl <| Ae)) ?_
 refine At rfl rfl (Al rfl <| Ae) (by first | rfl | decide) ?_
 refine Aa rfl (Bx (Ae) Ad) ?_
 refine Aa rfl (A6 (Ar rfl <| Ae) (by first | rfl | decide) (Ae)) ?_
 refine Aa rfl (Ac (Ae)) ?_
 refine Ah <| Ab <| A4 <| Ay rfl (.tmp (Ae) .nil) ?_
 show _ = _
 first | rfl | decide
end Go.Proofs.Ytccogmkhijgelaa
namespace Go.Proofs.Ytccogmkhijgelaa
/-- What was taken so far, and what is left. -/
structure TreeI (n : Nat) (g : Nat → Int) (taken left : List Nat) : Prop where
 nodup : (taken ++ left).Nodup
 len : taken.length + left.length = n
 all : ∀ i, i < n ↔ i ∈ taken ++ left
 root : ∀ (h : 0 < taken.length), g taken[0] = -1
 up : ∀ j (h : j < taken.length), 0 < j → ∃ k, ∃ hk : k < j, g taken[j] = (taken[k] : Int)
theorem TreeI.start {n : Nat} {g : Nat → Int} : TreeI n g [] (List.range n) := ⟨by simpa using List.nodup_range, by simp, fun i => by simp, fun h => absurd h (by simp), fun j h => absurd h (by simp)⟩
theorem erase_perm {α : Type} {l : List α} {k : Nat} (hk : k < l.length) : l.Perm (l[k] :: l.eraseIdx k) := by
 rw [List.eraseIdx_eq_take_drop_succ]
 have h : l = l.take k ++ l[k] :: l.drop (k + 1) := by rw [← List.drop_eq_getElem_cons hk, List.take_append_drop]
 conv => lhs; rw [h]
 exact List.perm_middle
section
variable {n : Nat} {g : Nat → Int} {taken left : List Nat} {k : Nat}
theorem TreeI.perm (hk : k < left.length) : (taken ++ left).Perm ((taken ++ [left[k]]) ++ left.eraseIdx k) := by
 rw [List.append_assoc]
 exact (erase_perm hk).append_left taken
theorem TreeI.fresh (h : TreeI n g taken left) (hk : k < left.length) {j : Nat} (hj : j < taken.length) : taken[j] ≠ left[k] := fun he => by
 have := (List.nodup_append.1 h.nodup).2.2 _ (List.getElem_mem hj) _ (List.getElem_mem hk)
 exact this he
theorem TreeI.lt (h : TreeI n g taken left) (hk : k < left.length) : left[k] < n := (h.all _).2 (List.mem_append_right _ (List.getElem_mem hk))
theorem TreeI.step (h : TreeI n g taken left) (hk : k < left.length) {g' : Nat → Int} (hg : ∀ i, i ≠ left[k] → g' i = g i) (h0 : taken.length = 0 → g' left[k] = -1) (h1 : 0 < taken.length → ∃ q, ∃ hq : q < taken.length, g' left[k] = (taken[q] : Int)) :
   TreeI n g' (taken ++ [left[k]]) (left.eraseIdx k) := by
 have hp := TreeI.perm (taken := taken) hk
 refine ⟨hp.nodup_iff.1 h.nodup, by have := h.len; rw [List.length_append, List.length_eraseIdx_of_lt hk, List.length_singleton]; omega, fun i => (h.all i).trans hp.mem_iff, fun hl => ?_, fun j hj hj0 => ?_⟩
 · by_cases ht : 0 < taken.length
   · rw [List.getElem_append_left ht, hg _ (h.fresh hk ht)]; exact h.root ht
   · rw [List.getElem_append_right (by omega)]
     simp only [List.getElem_singleton]
     exact h0 (by omega)
 · by_cases ht : j < taken.length
   · obtain ⟨q, hq, he⟩ := h.up j ht hj0
     refine ⟨q, hq, ?_⟩
     rw [List.getElem_append_left ht, List.getElem_append_left (by omega), hg _ (h.fresh hk ht)]; exact he
   · have hj2 : j = taken.length := by simp at hj; omega
     subst hj2
     obtain ⟨q, hq, he⟩ := h1 hj0
     refine ⟨q, hq, ?_⟩
     rw [List.getElem_append_right (Nat.le_refl _), List.getElem_append_left hq]
     simp only [List.getElem_singleton]
     exact he
end
theorem reach_le {l : List Int} {i f : Nat} (h : reach l f i = true) : ∀ d, reach l (f + d) i = true
 | 0 => h
 | d + 1 => reach_succ (reach_le h d)
theorem firsts_uniq {l : List Int} {r : Nat} (hr : upN l r = -1) : ∀ {k : Nat}, (∀ i, i < k → upN l i = -1 → i = r) → firstsN l k = if r < k then 1 else 0
 | 0, _ => by simp [firstsN]
 | k + 1, h => by
   unfold firstsN
   rw [firsts_uniq hr (fun i hi => h i (by omega))]
   by_cases hk : upN l k = -1
   · have := h k (by omega) hk
     subst this
     rw [if_pos hk, if_neg (by omega), if_pos (by omega)]; rfl
   · rw [if_neg hk]
     have : r ≠ k := fun e => hk (by rw [← e]; exact hr)
     by_cases hrk : r < k
     · rw [if_pos hrk, if_pos (by omega)]
     · rw [if_neg hrk, if_neg (by omega)]
def listG (g : Nat → Int) (n : Nat) : List Int := (List.range n).map g
theorem TreeI.tree {n : Nat} {g : Nat → Int} {taken : List Nat} (h : TreeI n g taken []) (hn : 0 < n) : IsTree (listG g n) := by
 have hlen : (listG g n).length = n := by simp [listG]
 have hup : ∀ i, i < n → upN (listG g n) i = g i := fun i hi => upN_map hi
 have hall : ∀ i, i < n ↔ i ∈ taken := fun i => by rw [h.all i, List.append_nil]
 have htl : taken.length = n := by have := h.len; simpa using this
 have hlt : ∀ j (hj : j < taken.length), taken[j] < n := fun j hj => (hall _).2 (List.getElem_mem hj)
 refine ⟨fun i hi => ?_, fun i hi => ?_, ?_⟩
 · rw [hlen] at hi ⊢
   rw [hup i hi]
   obtain ⟨j, hj, rfl⟩ := List.getElem_of_mem ((hall i).1 hi)
   by_cases hj0 : j = 0
   · subst hj0; rw [h.root hj]; omega
   · obtain ⟨k, hk, he⟩ := h.up j hj (by omega)
     rw [he]
     have := hlt k (by omega)
     omega
 · rw [hlen] at hi ⊢
   obtain ⟨j, hj, rfl⟩ := List.getElem_of_mem ((hall i).1 hi)
   have key : ∀ j (hj : j < taken.length), reach (listG g n) j taken[j] = true := by
     intro j
     induction j using Nat.strongRecOn with
     | _ j ih =>
       intro hj
       by_cases hj0 : j = 0
       · subst hj0; exact D4 (by rw [hup _ (hlt 0 hj)]; exact h.root hj)
       · obtain ⟨k, hk, he⟩ := h.up j hj (by omega)
         obtain ⟨j', rfl⟩ : ∃ j', j = j' + 1 := ⟨j - 1, by omega⟩
         rw [Ek (j := taken[k]) (by rw [hup _ (hlt _ hj)]; exact he)]
         have := reach_le (ih k hk (by omega)) (j' - k)
         rw [show k + (j' - k) = j' by omega] at this
         exact this
   have := reach_le (key j hj) (n - j)
   rw [show j + (n - j) = n by omega] at this
   exact this
 · rw [hlen]
   have h0 : 0 < taken.length := by omega
   rw [firsts_uniq (r := taken[0]) (by rw [hup _ (hlt 0 h0)]; exact h.root h0) fun i hi hu => ?_, if_pos (hlt 0 h0)]
   rw [hup i hi] at hu
   obtain ⟨j, hj, rfl⟩ := List.getElem_of_mem ((hall i).1 hi)
   by_cases hj0 : j = 0
   · subst hj0; rfl
   · obtain ⟨k, hk, he⟩ := h.up j hj (by omega)
     omega
end Go.Proofs.Ytccogmkhijgelaa
namespace Go.Proofs.Ytccogmkhijgelaa
/-- A pair of editions. -/
def prE (e : Nat × Nat) : List Go.Value := [.int .i64 (e.1 : Int), .int .i64 (e.2 : Int)]
def EarR (F : Heap) (u : Go.Value) (s : Stm) (E : Edges) : Prop := fitsE s E = true ∧ Ints F u (iL (firstY s E) s.editions.length) ∨ fitsE s E = false ∧ u = .slice none 0 0
theorem EarR.mono {F F' : Heap} {u : Go.Value} {s : Stm} {E : Edges} (h : EarR F u s E) (hF : F.le F') : EarR F' u s E := h.elim (fun h => .inl ⟨h.1, h.2.mono hF⟩) .inr
theorem EarR.nil {F : Heap} {u : Go.Value} {s : Stm} {E : Edges} (h : EarR F u s E) (hn : 0 < s.editions.length) : ∃ a k c, u = .slice a k c ∧ (decide (a = none)) = !(fitsE s E) := by
 rcases h with ⟨h1, h2⟩ | ⟨h1, rfl⟩
 · obtain ⟨a, c, rfl, -, g2, -, -⟩ := h2.plain
   refine ⟨a, _, c, rfl, ?_⟩
   rw [h1]
   refine decide_eq_false fun h => ?_
   have := (g2 h).1
   rw [C5] at this
   omega
 · exact ⟨none, 0, 0, rfl, by rw [h1]; rfl⟩
/-- Of one round, what is done: of the tree, and of the rest. -/
def DoneT (l : List Int) (i : Nat) (e : Nat × Nat) : Prop := e ∈ treeE l ∧ e.2 < i
def DoneM (l : List Int) (M : Edges) (q : Nat) (e : Nat × Nat) : Prop := e ∈ treeE l ∨ e ∈ M.take q
section
variable {s : Stm} {l : List Int} {M : Edges} {r i q : Nat} {cur : Nat → Int}
abbrev RelY (s : Stm) (E : Edges) (r : Nat) (D : Nat × Nat → Prop) (cur : Nat → Int) : Prop := Relaxed s.editions.length E (fun i => (s.ed i).lo) r D cur
theorem rel_bound (hv : ValidT s) {E : Edges} (hE : ∀ e ∈ E, e.1 < s.editions.length ∧ e.2 < s.editions.length) {D : Nat × Nat → Prop} (h : RelY s E r D cur) {i : Nat} (hi : i < s.editions.length) : 1400 ≤ cur i ∧ cur i ≤ 1900 := by
 have h1 := h.lo i hi
 have h2 := h.hi i hi
 have h3 := firstY_bound hv hE r i hi
 have h4 := firstY_bound hv hE s.editions.length i hi
 have h5 := hv.ne
 omega
theorem rel_none {E : Edges} {D : Nat × Nat → Prop} (h : RelY s E r (fun _ => False) cur) (hD : ∀ e, ¬ D e) : RelY s E r D cur := h.weaken fun e _ hd => (hD e hd).elim
/-- An edition that is a first one. -/
theorem rel_root (h : RelY s (treeE l ++ M) r (DoneT l i) cur) (hu : upN l i = -1) : RelY s (treeE l ++ M) r (DoneT l (i + 1)) cur := h.weaken fun e _ hd => by
 refine ⟨hd.1, ?_⟩
 have h1 := hd.2
 by_cases h2 : e.2 = i
 · exact absurd hu (by rw [← h2]; exact (treeE_mem.1 hd.1).2.1)
 · omega
theorem rel_tree (h : RelY s (treeE l ++ M) r (DoneT l i) cur) (hd : Dag s.editions.length (treeE l ++ M)) (hi : i < l.length) {k : Nat} (hu : upN l i = (k : Int)) : RelY s (treeE l ++ M) r (DoneT l (i + 1)) (updI cur i (max (cur i) (cur k + 1))) := by
 have he : (k, i) ∈ treeE l := treeE_at hi hu
 refine (h.step hd (List.mem_append_left _ he)).weaken fun e _ hD => ?_
 have h1 := hD.2
 by_cases h2 : e.2 = i
 · right
   obtain ⟨-, -, h5⟩ := treeE_mem.1 hD.1
   rw [h2, hu, Int.toNat_natCast] at h5
   exact Prod.ext h5 h2
 · exact .inl ⟨hD.1, by omega⟩
theorem rel_all (h : RelY s (treeE l ++ M) r (DoneT l l.length) cur) : RelY s (treeE l ++ M) r (DoneM l M 0) cur := h.weaken fun e _ hD => by
 rcases hD with hD | hD
 · exact ⟨hD, (treeE_mem.1 hD).1⟩
 · simp at hD
theorem rel_more (h : RelY s (treeE l ++ M) r (DoneM l M q) cur) (hd : Dag s.editions.length (treeE l ++ M)) (hq : q < M.length) : RelY s (treeE l ++ M) r (DoneM l M (q + 1)) (updI cur M[q].2 (max (cur M[q].2) (cur M[q].1 + 1))) := by
 have he : (M[q].1, M[q].2) ∈ treeE l ++ M := List.mem_append_right _ (List.getElem_mem hq)
 refine (h.step hd he).weaken fun e _ hD => ?_
 rcases hD with hD | hD
 · exact .inl (.inl hD)
 · rw [List.take_succ_eq_append_getElem hq] at hD
   rcases List.mem_append.1 hD with hD | hD
   · exact .inl (.inr hD)
   · right; simpa using hD
theorem rel_round (h : RelY s (treeE l ++ M) r (DoneM l M M.length) cur) : RelY s (treeE l ++ M) (r + 1) (fun _ => False) cur := h.round fun e he => by
 rcases List.mem_append.1 he with he | he
 · exact .inl he
 · right; rw [List.take_length]; exact he
theorem rel_full {E : Edges} {D : Nat × Nat → Prop} (h : RelY s E r D cur) (hr : s.editions.length ≤ r) : iL cur s.editions.length = iL (firstY s E) s.editions.length :=
 List.map_congr_left fun _i hi => h.full hr (List.mem_range.1 hi)
end
theorem fitsE_no {s : Stm} {E : Edges} {i : Nat} (hi : i < s.editions.length) (h : (s.ed i).hi < firstY s E i) : fitsE s E = false := by
 cases hf : fitsE s E with
 | false => rfl
 | true => have := fitsE_iff.1 hf i hi; omega
end Go.Proofs.Ytccogmkhijgelaa
namespace Go.Proofs.Ytccogmkhijgelaa
open Go.RowKit
theorem ar_27 : ArrT Try.prog 27 2 3 1 := arrT_of (by kernel_rfl)
theorem sl_137 : SliceT Try.prog 137 27 2 := En (by kernel_rfl)
set_option maxRecDepth 100000 in
theorem earliest_ok {F : Heap} {vp ve : Value} {ps : List (Value × Edn)} {s : Stm} (hr : StmR F vp ve ps s) (hv : ValidT s) {v : Value} {l : List Int} (hl : Ints F v l) (hll : l.length = s.editions.length) (ht : IsTree l) {vm : Value} {M : Edges} (hmo : Sl F vm 2 prE M) (hd : Dag s.editions.length (treeE l ++ M)) : Ok Try.prog 74 [.agg #[vp, ve], v, vm].toArray F fun u F' => EarR F' u s (treeE l ++ M) := by
 have hle0 : F.le F := Heap.le_refl _
 refine Ok.intro Try.func74 rfl Try.ntmps74 rfl fun w0 => ?_
 have hL := hl.plain.lt
 have hlen := hr.len
 have hL1 := hr.eds.plain.lt
 have hne := hv.ne
 have hmol := hmo.plain.lt
 refine Af <| Ai fun ds => Bk rfl (B1 (Aj rfl) rfl fun b1 hb1 nb1 => ?_)
 refine Aa rfl (Ac Ad) ?_
 refine Ah <| Ab <| Af <| Ai fun ds => Aa rfl (Ac Ad) ?_
 refine Ah <| Ab <| Af <| Af <| Ai fun ds => Aa rfl (Ac Ad) ?_
 refine Ah <| Ab <| A0 <| Bs [7, 8, 13, 14, 15, 16, 17, 18, 19, 20, 21, 22, 23, 24, 25, 26, 27, 28] (fun m e σ => ∃ k : Nat, m + k = l.length ∧ e 8 = .int .i64 (k : Int) ∧ ∃ v7 R7, e 7 = v7 ∧ Own 3 1 v7 (iL (fun i => (s.ed i).lo) k).length ((iL (fun i => (s.ed i).lo) k).flatMap intE) R7 ∧ σ = ⟨F, (b1, bx 25 [vp, ve]) :: R7⟩) (l.length) ?_ ?_
 · exact ⟨0, by omega, (Ae), _, _, (Al rfl <| Ae), Ef, rfl⟩
 ·
  rintro m e _ ⟨k, hm, hs8, v7, R7, hs7, ho, rfl⟩; have hil9 := C5 (f := (fun i => (s.ed i).lo)) (n := k)
  by_cases hlt : k < l.length
  ·
   have hkp : k < ps.length := by omega
   have e1 := hr.at hkp
   refine Af <| Af <| Ai fun ds => Aa rfl (Ag (As rfl hs8)) ?_
   refine Aa rfl (Ag (Al rfl <| Ak rfl <| Az rfl <| Aj rfl)) ?_
   refine Aa rfl (Bh Be (Ae) hl.plain) ?_
   refine Aa rfl (Br (Ar rfl <| Ae) (Ae)) ?_
   refine Ah <| Ab <| Aq (Ae) (by first | rfl | exact decide_eq_true (by omega)) ?_
   refine Au <| Ab <| Af <| A0 <| Ai fun ds => Aa rfl (Ag (Az rfl <| As rfl hs7)) ?_
   refine Aa rfl (Ao Bv (Az rfl <| Al rfl <| Ak rfl <| Ar rfl <| Al rfl <| Ae)) ?_
   refine Aa rfl (Ap Bz (Ae) (Cell.own 0 rfl rfl)) ?_
   refine Aa rfl (Ag (Az rfl <| Ar rfl <| Al rfl <| As rfl hs8)) ?_
   refine Aa rfl (A9 (k := k) B7 (Al rfl <| Ae) hr.eds.plain (Ae) rfl hkp) ?_
   refine Aa rfl (Bt Dm (Ae)) ?_
   refine Aa rfl (Bt Dv (Ae)) ?_
   refine Aa rfl (Ap Bl (Ae) (hr.eds.cell hkp rfl)) ?_
   refine Bk rfl (B2 Be Db rfl (.cons (Ae) .nil) rfl rfl (by decide) (by simp [Value.oneCell']) fun b3 hb3 nb3 => ?_)
   refine Bk rfl (B4 Be el_3 (A7 rfl <| Ae) ho (Ae) (C6 (s := 1) 0 rfl rfl (by simp [Value.oneCell'])) (by omega) (by omega) (.s <| .s <| .z) .last fun v4 R5 ho6 => ?_)
   have ho2 : Own 3 1 v4 (iL (fun i => (s.ed i).lo) (k + 1)).length ((iL (fun i => (s.ed i).lo) (k + 1)).flatMap intE) R5 := by have h9 := ho6; rw [iL_succ]; exact h9.snoc (x := (s.ed k).lo) rfl (by rw [← e1]; rfl)
   refine Aa rfl (Ac (Ae)) ?_
   refine Ah <| Bb <| Ab <| Cz (fun _ _ h => h.drop (.cons _ <| .cons_cons _ <| .refl _)) ?_
   refine Ai fun ds => Aa rfl (Ag (A7 rfl <| Az rfl <| Ar rfl <| Al rfl <| As rfl hs8)) ?_
   refine Aa rfl (Bp (Ae) Ad rfl (by omega) (by omega)) ?_
   refine Aa rfl (Ac (Ae)) ?_
   refine Ah <| Ab ⟨_, m - 1, Off.eq (Cq rfl <| Eb rfl <| Ba), by omega, ?_⟩
   exact ⟨k + 1, by omega, (Ae), _, _, (Ar rfl <| Al rfl <| Ae), ho2, rfl⟩
  ·
   refine Af <| Af <| Ai fun ds => Aa rfl (Ag (As rfl hs8)) ?_
   refine Aa rfl (Ag (Al rfl <| Ak rfl <| Az rfl <| Aj rfl)) ?_
   refine Aa rfl (Bh Be (Ae) hl.plain) ?_
   refine Aa rfl (Br (Ar rfl <| Ae) (Ae)) ?_
   refine Ah <| Ab <| Am (Ae) (by first | rfl | exact decide_eq_false (by omega)) ?_
   obtain rfl : k = s.editions.length := by omega
   replace ho := ho.to C5
   refine Bn ?_
   refine Bd <| Bd <| Bf <| Ab <| Af <| Af <| Ai fun ds => Aa rfl (Ac Ad) ?_
   refine Ah <| Ab <| A0 <| Bs [9, 10, 11, 29, 30, 31, 32, 33, 34, 35, 36, 37, 38, 39, 40, 41, 42, 43, 44, 45, 46, 47, 48, 49, 50, 51, 52, 53, 54, 55, 56, 57, 58, 59, 60, 61, 62, 63, 64, 65, 66, 67, 68, 69, 70, 71, 72, 73, 74, 75, 76, 77, 78, 79, 80, 81, 82, 83, 84, 85, 86, 87, 88, 89, 90, 91, 92] (fun m e σ => ∃ r : Nat, m + r = l.length + 1 ∧ e 9 = .int .i64 (r : Int) ∧ ∃ cur R7, Own 3 1 v7 s.editions.length ((iL cur s.editions.length).flatMap intE) R7 ∧ RelY s (treeE l ++ M) r (fun _ => False) cur ∧ σ = ⟨F, (b1, bx 25 [vp, ve]) :: R7⟩) (l.length + 1) ?_ ?_
   · exact ⟨0, by omega, (Ae), _, _, ho, Relaxed.start (fun _ _ => rfl), rfl⟩
   ·
    rintro m2 e2 _ ⟨r, hm2, ht9, cur, R7, ho, hI, rfl⟩
    by_cases hlr : r ≤ l.length
    ·
     refine Af <| Af <| Ai fun ds => Aa rfl (Ag (As rfl ht9)) ?_
     refine Aa rfl (Ag (Al rfl <| Ak rfl <| Az rfl <| Al rfl <| Ak rfl <| Az rfl <| Aj rfl)) ?_
     refine Aa rfl (Bh Be (Ae) hl.plain) ?_
     refine Aa rfl (D0 (Ar rfl <| Ae) (Ae)) ?_
     refine Ah <| Ab <| Aq (Ae) (by first | rfl | exact decide_eq_true (by omega)) ?_
     refine Au <| Ab <| Af <| A0 <| Af <| Af <| Ai fun ds => Aa rfl (Ac Ad) ?_
     refine Ah <| Ab <| A0 <| Bs [10, 35, 36, 37, 38, 39, 40, 41, 42, 43, 44, 45, 46, 47, 48, 49, 50, 51, 52, 53, 54, 55, 56, 57, 58, 59, 60, 61] (fun m e σ => ∃ i : Nat, m + i = l.length ∧ e 10 = .int .i64 (i : Int) ∧ ∃ cur R7, Own 3 1 v7 s.editions.length ((iL cur s.editions.length).flatMap intE) R7 ∧ RelY s (treeE l ++ M) r (DoneT l i) cur ∧ σ = ⟨F, (b1, bx 25 [vp, ve]) :: R7⟩) (l.length) ?_ ?_
     · exact ⟨0, by omega, (Ae), _, _, ho, rel_none hI (fun e h => by unfold DoneT at h; omega), rfl⟩
     ·
      rintro m3 e3 _ ⟨i, hm3, hu10, cur, R7, ho, hI, rfl⟩
      by_cases hlt : i < l.length
      ·
       have hin : i < s.editions.length := by omega
       refine Af <| Af <| Ai fun ds => Aa rfl (Ag (As rfl hu10)) ?_
       refine Aa rfl (Ag (Al rfl <| Ak rfl <| Az rfl <| Al rfl <| Ak rfl <| Az rfl <| Al rfl <| Ak rfl <| Az rfl <| Aj rfl)) ?_
       refine Aa rfl (Bh Be (Ae) hl.plain) ?_
       refine Aa rfl (Br (Ar rfl <| Ae) (Ae)) ?_
       refine Ah <| Ab <| Aq (Ae) (by first | rfl | exact decide_eq_true (by omega)) ?_
       by_cases hu : upN l i = -1
       ·
        refine Au <| Ab <| Af <| A0 <| Af <| Ai fun ds => Aa rfl (Ag (Az rfl <| Ak rfl <| Az rfl <| Al rfl <| Ak rfl <| Az rfl <| Al rfl <| Ak rfl <| Az rfl <| Aj rfl)) ?_
        refine Aa rfl (Ag (Az rfl <| Al rfl <| As rfl hu10)) ?_
        refine Aa rfl (A9 (k := i) Be (Al rfl <| Ae) hl.plain (Ae) rfl hlt) ?_
        refine Aa rfl (Ap Bl (Ae) (hl.cell1 hlt rfl)) ?_
        refine Aa rfl (By (Ae) Ad) ?_
        refine Ah <| Ab <| Am (Ae) (by rw [Dd hlt]; exact decide_eq_false (fun h => h hu)) ?_
        refine Au <| Bb <| Ab <| Ai fun ds => Aa rfl (Ag (A7 rfl <| Al rfl <| As rfl hu10)) ?_
        refine Aa rfl (Bp (Ae) Ad rfl (by omega) (by omega)) ?_
        refine Aa rfl (Ac (Ae)) ?_
        refine Ah <| Ab ⟨_, m3 - 1, Off.eq (Di rfl <| Dy rfl <| Ba), by omega, ?_⟩
        exact ⟨i + 1, by omega, (Ae), _, _, ho, rel_root hI hu, rfl⟩
       ·
        obtain ⟨k, hk, hkl⟩ := ht.in_.nat hlt hu
        have hkn : k < s.editions.length := by omega
        have hlk : l[i] = (k : Int) := by rw [Dd hlt, hk]
        have hb1 := rel_bound hv hd.1 hI hin
        have hb2 := rel_bound hv hd.1 hI hkn
        refine Au <| Ab <| Af <| A0 <| Af <| Ai fun ds => Aa rfl (Ag (Az rfl <| Ak rfl <| Az rfl <| Al rfl <| Ak rfl <| Az rfl <| Al rfl <| Ak rfl <| Az rfl <| Aj rfl)) ?_
        refine Aa rfl (Ag (Az rfl <| Al rfl <| As rfl hu10)) ?_
        refine Aa rfl (A9 (k := i) Be (Al rfl <| Ae) hl.plain (Ae) rfl hlt) ?_
        refine Aa rfl (Ap Bl (Ae) (hl.cell1 hlt rfl)) ?_
        refine Aa rfl (By (Ae) Ad) ?_
        refine Ah <| Ab <| Aq (Ae) (by rw [Dd hlt]; exact decide_eq_true hu) ?_
        have hleS := hle0
        refine Cu (.inl rfl) (fun _ _ h => h) (.cons_cons _ <| .refl _) [16] (by kernel_rfl) fun ds => ?_
        refine A2 0 rfl (by kernel_rfl) (by kernel_rfl) (by kernel_rfl) (by kernel_rfl) rfl rfl (fun _ h => h.drop (.cons_cons _ <| .refl _)) (fun _ _ _ h => h) (Ag (A7 rfl <| Al rfl <| Ak rfl <| Az rfl <| Al rfl <| Ak rfl <| Az rfl <| Al rfl <| As rfl hs7)) ?_
        refine A2 1 rfl (by kernel_rfl) (by kernel_rfl) (by kernel_rfl) (by kernel_rfl) rfl rfl (fun _ h => h.drop (.cons_cons _ <| .refl _)) (fun _ _ _ h => h) (Ag (A7 rfl <| Ar rfl <| As rfl hu10)) ?_
        refine A2 2 rfl (by kernel_rfl) (by kernel_rfl) (by kernel_rfl) (by kernel_rfl) rfl rfl (fun _ h => h.drop (.cons_cons _ <| .refl _)) (fun _ _ _ h => h) (Ag (A7 rfl <| Ar rfl <| Al rfl <| Ak rfl <| Az rfl <| Al rfl <| Ak rfl <| Az rfl <| Al rfl <| As rfl hs7)) ?_
        refine A2 3 rfl (by kernel_rfl) (by kernel_rfl) (by kernel_rfl) (by kernel_rfl) rfl rfl (fun _ h => h.drop (.cons_cons _ <| .refl _)) (fun _ _ _ h => h) (Ag (A7 rfl <| Az rfl <| As rfl hu10)) ?_
        refine A2 4 rfl (by kernel_rfl) (by kernel_rfl) (by kernel_rfl) (by kernel_rfl) rfl rfl (fun _ h => h.drop (.cons_cons _ <| .refl _)) (fun _ _ _ h => h) (A9 (k := i) Be (Al rfl <| Ae) (ho.plain (by omega)) (Ae) rfl hin) ?_
        refine A2 5 rfl (by kernel_rfl) (by kernel_rfl) (by kernel_rfl) (by kernel_rfl) rfl rfl (fun _ h => h.drop (.cons_cons _ <| .refl _)) (fun _ _ _ h => h) (Ap Bl (Ae) (Dx ho (fun p hp => .tail _ (hp)) (iL_get hin))) ?_
        refine A2 6 rfl (by kernel_rfl) (by kernel_rfl) (by kernel_rfl) (by kernel_rfl) rfl rfl (fun _ h => h.drop (.cons_cons _ <| .refl _)) (fun _ _ _ h => h) (Ag (A7 rfl <| Az rfl <| Ar rfl <| Al rfl <| Ak rfl <| Az rfl <| Al rfl <| Ak rfl <| Az rfl <| Al rfl <| As rfl hs7)) ?_
        refine A2 7 rfl (by kernel_rfl) (by kernel_rfl) (by kernel_rfl) (by kernel_rfl) rfl rfl (fun _ h => h.drop (.cons_cons _ <| .refl _)) (fun _ _ _ h => h) (Ag (A5 rfl <| Ak rfl <| Az rfl <| Al rfl <| Ak rfl <| Az rfl <| Al rfl <| Ak rfl <| Az rfl <| Aj rfl)) ?_
        refine A2 8 rfl (by kernel_rfl) (by kernel_rfl) (by kernel_rfl) (by kernel_rfl) rfl rfl (fun _ h => h.drop (.cons_cons _ <| .refl _)) (fun _ _ _ h => h) (Ag (A5 rfl <| Al rfl <| As rfl hu10)) ?_
        refine A2 9 rfl (by kernel_rfl) (by kernel_rfl) (by kernel_rfl) (by kernel_rfl) rfl rfl (fun _ h => h.drop (.cons_cons _ <| .refl _)) (fun _ _ _ h => h) (A9 (k := i) Be (Al rfl <| Ae) hl.plain (Ae) rfl hlt) ?_
        refine A2 10 rfl (by kernel_rfl) (by kernel_rfl) (by kernel_rfl) (by kernel_rfl) rfl rfl (fun _ h => h.drop (.cons_cons _ <| .refl _)) (fun _ _ _ h => h) (Ap Bl (Ae) (hl.cell1 hlt rfl)) ?_
        refine A2 11 rfl (by kernel_rfl) (by kernel_rfl) (by kernel_rfl) (by kernel_rfl) rfl rfl (fun _ h => h.drop (.cons_cons _ <| .refl _)) (fun _ _ _ h => h) (A9 (k := k) Be (Az rfl <| Ae) (ho.plain (by omega)) (Ae) hlk hkn) ?_
        refine A2 12 rfl (by kernel_rfl) (by kernel_rfl) (by kernel_rfl) (by kernel_rfl) rfl rfl (fun _ h => h.drop (.cons_cons _ <| .refl _)) (fun _ _ _ h => h) (Ap Bl (Ae) (Dx ho (fun p hp => .tail _ (hp)) (iL_get hkn))) ?_
        refine A2 13 rfl (by kernel_rfl) (by kernel_rfl) (by kernel_rfl) (by kernel_rfl) rfl rfl (fun _ h => h.drop (.cons_cons _ <| .refl _)) (fun _ _ _ h => h) (Bp (Ae) Ad rfl (by omega) (by omega)) ?_
        refine A2 14 rfl (by kernel_rfl) (by kernel_rfl) (by kernel_rfl) (by kernel_rfl) rfl rfl (fun _ h => h.drop (.cons_cons _ <| .refl _)) (fun _ _ _ h => h) (q_max2 (A7 rfl <| Ae) (Ae)) ?_
        refine A2 15 rfl (by kernel_rfl) (by kernel_rfl) (by kernel_rfl) (by kernel_rfl) rfl rfl (fun _ h => h.drop (.cons_cons _ <| .refl _)) (fun _ _ _ h => h) (A9 (k := i) Be (A7 rfl <| Az rfl <| Ar rfl <| Ae) (ho.plain (by omega)) (A7 rfl <| Az rfl <| Al rfl <| Ae) rfl hin) ?_
        refine WX_x0 16 rfl (by kernel_rfl) (x_storeR sz_3 (Ae) (Al rfl <| Ae) ho (by rw [iL_len1]; omega) rfl (.s <| .z) .last fun R9 ho10 => ⟨(fun h => nomatch h), ?_⟩)
        have ho3 := ho10
        rw [iL_set hin] at ho3
        refine Cr (by kernel_rfl) ?_ _
        refine Bb <| Ab <| Ai fun ds => Aa rfl (Ag (A5 rfl <| A7 rfl <| Al rfl <| As rfl hu10)) ?_
        refine Aa rfl (Bp (Ae) Ad rfl (by omega) (by omega)) ?_
        refine Aa rfl (Ac (Ae)) ?_
        refine Ah <| Ab ⟨_, m3 - 1, Off.eq (Cq rfl <| Di rfl <| Dy rfl <| Ba), by omega, ?_⟩
        exact ⟨i + 1, by omega, (Ae), _, _, ho3, rel_tree hI hd hlt hk, rfl⟩
      ·
       refine Af <| Af <| Ai fun ds => Aa rfl (Ag (As rfl hu10)) ?_
       refine Aa rfl (Ag (Al rfl <| Ak rfl <| Az rfl <| Al rfl <| Ak rfl <| Az rfl <| Al rfl <| Ak rfl <| Az rfl <| Aj rfl)) ?_
       refine Aa rfl (Bh Be (Ae) hl.plain) ?_
       refine Aa rfl (Br (Ar rfl <| Ae) (Ae)) ?_
       refine Ah <| Ab <| Am (Ae) (by first | rfl | exact decide_eq_false (by omega)) ?_
       obtain rfl : i = l.length := by omega
       refine Bn ?_
       refine Bd <| Bd <| Bf <| Ab <| Af <| Ai fun ds => Aa rfl (Ac Ad) ?_
       refine Ah <| Ab <| A0 <| Bs [11, 62, 63, 64, 65, 66, 67, 68, 69, 70, 71, 72, 73, 74, 75, 76, 77, 78, 79, 80, 81, 82, 83, 84, 85, 86, 87, 88, 89, 90, 91, 92] (fun m e σ => ∃ q : Nat, m + q = M.length ∧ e 11 = .int .i64 (q : Int) ∧ ∃ cur R7, Own 3 1 v7 s.editions.length ((iL cur s.editions.length).flatMap intE) R7 ∧ RelY s (treeE l ++ M) r (DoneM l M q) cur ∧ σ = ⟨F, (b1, bx 25 [vp, ve]) :: R7⟩) (M.length) ?_ ?_
       · exact ⟨0, by omega, (Ae), _, _, ho, rel_all hI, rfl⟩
       ·
        rintro m4 e4 _ ⟨q, hm4, hw11, cur, R7, ho, hI, rfl⟩
        by_cases hlq : q < M.length
        ·
         have hMe := hd.1 _ (List.mem_append_right (treeE l) (List.getElem_mem hlq))
         have hb1 := rel_bound hv hd.1 hI hMe.1
         have hb2 := rel_bound hv hd.1 hI hMe.2
         refine Af <| Af <| Ai fun ds => Aa rfl (Ag (As rfl hw11)) ?_
         refine Aa rfl (Ag (Al rfl <| Ak rfl <| Az rfl <| Al rfl <| Ak rfl <| Az rfl <| Al rfl <| Ak rfl <| Az rfl <| Al rfl <| Ak rfl <| Az rfl <| Aj rfl)) ?_
         refine Aa rfl (Bh sl_137 (Ae) hmo.plain) ?_
         refine Aa rfl (Br (Ar rfl <| Ae) (Ae)) ?_
         refine Ah <| Ab <| Aq (Ae) (by first | rfl | exact decide_eq_true (by omega)) ?_
         refine Au <| Ab <| Af <| A0 ?_
         have hleS := hle0
         refine Cu (.inl rfl) (fun _ _ h => h) (.cons_cons _ <| .refl _) [25] (by kernel_rfl) fun ds => ?_
         refine A2 0 rfl (by kernel_rfl) (by kernel_rfl) (by kernel_rfl) (by kernel_rfl) rfl rfl (fun _ h => h.drop (.cons_cons _ <| .refl _)) (fun _ _ _ h => h) (Ag (Az rfl <| Ak rfl <| Az rfl <| Al rfl <| Ak rfl <| Az rfl <| Al rfl <| Ak rfl <| Az rfl <| Al rfl <| As rfl hs7)) ?_
         refine A2 1 rfl (by kernel_rfl) (by kernel_rfl) (by kernel_rfl) (by kernel_rfl) rfl rfl (fun _ h => h.drop (.cons_cons _ <| .refl _)) (fun _ _ _ h => h) (Ag (Az rfl <| Al rfl <| Ak rfl <| Az rfl <| Al rfl <| Ak rfl <| Az rfl <| Al rfl <| Ak rfl <| Az rfl <| Al rfl <| Ak rfl <| Az rfl <| Aj rfl)) ?_
         refine A2 2 rfl (by kernel_rfl) (by kernel_rfl) (by kernel_rfl) (by kernel_rfl) rfl rfl (fun _ h => h.drop (.cons_cons _ <| .refl _)) (fun _ _ _ h => h) (Ag (Az rfl <| Ar rfl <| As rfl hw11)) ?_
         refine A2 3 rfl (by kernel_rfl) (by kernel_rfl) (by kernel_rfl) (by kernel_rfl) rfl rfl (fun _ h => h.drop (.cons_cons _ <| .refl _)) (fun _ _ _ h => h) (A9 (k := q) sl_137 (Al rfl <| Ae) hmo.plain (Ae) rfl hlq) ?_
         refine A2 4 rfl (by kernel_rfl) (by kernel_rfl) (by kernel_rfl) (by kernel_rfl) rfl rfl (fun _ h => h.drop (.cons_cons _ <| .refl _)) (fun _ _ _ h => h) (q_indexArr (k := 1) ar_27 (Ae) Ad rfl (by decide)) ?_
         refine A2 5 rfl (by kernel_rfl) (by kernel_rfl) (by kernel_rfl) (by kernel_rfl) rfl rfl (fun _ h => h.drop (.cons_cons _ <| .refl _)) (fun _ _ _ h => h) (Ap Bl (Ae) (hmo.cell (j := 1 * 1) hlq rfl)) ?_
         refine A2 6 rfl (by kernel_rfl) (by kernel_rfl) (by kernel_rfl) (by kernel_rfl) rfl rfl (fun _ h => h.drop (.cons_cons _ <| .refl _)) (fun _ _ _ h => h) (Ag (A7 rfl <| Ar rfl <| Ak rfl <| Az rfl <| Al rfl <| Ak rfl <| Az rfl <| Al rfl <| Ak rfl <| Az rfl <| Al rfl <| As rfl hs7)) ?_
         refine A2 7 rfl (by kernel_rfl) (by kernel_rfl) (by kernel_rfl) (by kernel_rfl) rfl rfl (fun _ h => h.drop (.cons_cons _ <| .refl _)) (fun _ _ _ h => h) (Ag (A7 rfl <| Ar rfl <| Al rfl <| Ak rfl <| Az rfl <| Al rfl <| Ak rfl <| Az rfl <| Al rfl <| Ak rfl <| Az rfl <| Al rfl <| Ak rfl <| Az rfl <| Aj rfl)) ?_
         refine A2 8 rfl (by kernel_rfl) (by kernel_rfl) (by kernel_rfl) (by kernel_rfl) rfl rfl (fun _ h => h.drop (.cons_cons _ <| .refl _)) (fun _ _ _ h => h) (Ag (A7 rfl <| Az rfl <| As rfl hw11)) ?_
         refine A2 9 rfl (by kernel_rfl) (by kernel_rfl) (by kernel_rfl) (by kernel_rfl) rfl rfl (fun _ h => h.drop (.cons_cons _ <| .refl _)) (fun _ _ _ h => h) (A9 (k := q) sl_137 (Al rfl <| Ae) hmo.plain (Ae) rfl hlq) ?_
         refine A2 10 rfl (by kernel_rfl) (by kernel_rfl) (by kernel_rfl) (by kernel_rfl) rfl rfl (fun _ h => h.drop (.cons_cons _ <| .refl _)) (fun _ _ _ h => h) (q_indexArr (k := 1) ar_27 (Ae) Ad rfl (by decide)) ?_
         refine A2 11 rfl (by kernel_rfl) (by kernel_rfl) (by kernel_rfl) (by kernel_rfl) rfl rfl (fun _ h => h.drop (.cons_cons _ <| .refl _)) (fun _ _ _ h => h) (Ap Bl (Ae) (hmo.cell (j := 1 * 1) hlq rfl)) ?_
         refine A2 12 rfl (by kernel_rfl) (by kernel_rfl) (by kernel_rfl) (by kernel_rfl) rfl rfl (fun _ h => h.drop (.cons_cons _ <| .refl _)) (fun _ _ _ h => h) (A9 (k := M[q].2) Be (Az rfl <| Al rfl <| Ae) (ho.plain (by omega)) (Ae) rfl hMe.2) ?_
         refine A2 13 rfl (by kernel_rfl) (by kernel_rfl) (by kernel_rfl) (by kernel_rfl) rfl rfl (fun _ h => h.drop (.cons_cons _ <| .refl _)) (fun _ _ _ h => h) (Ap Bl (Ae) (Dx ho (fun p hp => .tail _ (hp)) (iL_get hMe.2))) ?_
         refine A2 14 rfl (by kernel_rfl) (by kernel_rfl) (by kernel_rfl) (by kernel_rfl) rfl rfl (fun _ h => h.drop (.cons_cons _ <| .refl _)) (fun _ _ _ h => h) (Ag (A5 rfl <| Ar rfl <| Ak rfl <| Az rfl <| Al rfl <| Ak rfl <| Az rfl <| Al rfl <| Ak rfl <| Az rfl <| Al rfl <| As rfl hs7)) ?_
         refine A2 15 rfl (by kernel_rfl) (by kernel_rfl) (by kernel_rfl) (by kernel_rfl) rfl rfl (fun _ h => h.drop (.cons_cons _ <| .refl _)) (fun _ _ _ h => h) (Ag (A5 rfl <| Ar rfl <| Al rfl <| Ak rfl <| Az rfl <| Al rfl <| Ak rfl <| Az rfl <| Al rfl <| Ak rfl <| Az rfl <| Al rfl <| Ak rfl <| Az rfl <| Aj rfl)) ?_
         refine A2 16 rfl (by kernel_rfl) (by kernel_rfl) (by kernel_rfl) (by kernel_rfl) rfl rfl (fun _ h => h.drop (.cons_cons _ <| .refl _)) (fun _ _ _ h => h) (Ag (A5 rfl <| Az rfl <| As rfl hw11)) ?_
         refine A2 17 rfl (by kernel_rfl) (by kernel_rfl) (by kernel_rfl) (by kernel_rfl) rfl rfl (fun _ h => h.drop (.cons_cons _ <| .refl _)) (fun _ _ _ h => h) (A9 (k := q) sl_137 (Al rfl <| Ae) hmo.plain (Ae) rfl hlq) ?_
         refine A2 18 rfl (by kernel_rfl) (by kernel_rfl) (by kernel_rfl) (by kernel_rfl) rfl rfl (fun _ h => h.drop (.cons_cons _ <| .refl _)) (fun _ _ _ h => h) (q_indexArr (k := 0) ar_27 (Ae) Ad rfl (by decide)) ?_
         refine A2 19 rfl (by kernel_rfl) (by kernel_rfl) (by kernel_rfl) (by kernel_rfl) rfl rfl (fun _ h => h.drop (.cons_cons _ <| .refl _)) (fun _ _ _ h => h) (Ap Bl (Ae) (hmo.cell (j := 0 * 1) hlq rfl)) ?_
         refine A2 20 rfl (by kernel_rfl) (by kernel_rfl) (by kernel_rfl) (by kernel_rfl) rfl rfl (fun _ h => h.drop (.cons_cons _ <| .refl _)) (fun _ _ _ h => h) (A9 (k := M[q].1) Be (Az rfl <| Al rfl <| Ae) (ho.plain (by omega)) (Ae) rfl hMe.1) ?_
         refine A2 21 rfl (by kernel_rfl) (by kernel_rfl) (by kernel_rfl) (by kernel_rfl) rfl rfl (fun _ h => h.drop (.cons_cons _ <| .refl _)) (fun _ _ _ h => h) (Ap Bl (Ae) (Dx ho (fun p hp => .tail _ (hp)) (iL_get hMe.1))) ?_
         refine A2 22 rfl (by kernel_rfl) (by kernel_rfl) (by kernel_rfl) (by kernel_rfl) rfl rfl (fun _ h => h.drop (.cons_cons _ <| .refl _)) (fun _ _ _ h => h) (Bp (Ae) Ad rfl (by omega) (by omega)) ?_
         refine A2 23 rfl (by kernel_rfl) (by kernel_rfl) (by kernel_rfl) (by kernel_rfl) rfl rfl (fun _ h => h.drop (.cons_cons _ <| .refl _)) (fun _ _ _ h => h) (q_max2 (A7 rfl <| Al rfl <| Ae) (Ae)) ?_
         refine A2 24 rfl (by kernel_rfl) (by kernel_rfl) (by kernel_rfl) (by kernel_rfl) rfl rfl (fun _ h => h.drop (.cons_cons _ <| .refl _)) (fun _ _ _ h => h) (A9 (k := M[q].2) Be (A5 rfl <| Az rfl <| Ar rfl <| Al rfl <| Ae) (ho.plain (by omega)) (A5 rfl <| Ar rfl <| Ae) rfl hMe.2) ?_
         refine WX_x0 25 rfl (by kernel_rfl) (x_storeR sz_3 (Ae) (Al rfl <| Ae) ho (by rw [iL_len1]; have := hMe.2; omega) rfl (.s <| .z) .last fun R12 ho13 => ⟨(fun h => nomatch h), ?_⟩)
         have ho4 := ho13
         rw [iL_set hMe.2] at ho4
         refine Cr (by kernel_rfl) ?_ _
         refine Bb <| Ab <| Ai fun ds => Aa rfl (Ag (A5 rfl <| A7 rfl <| Az rfl <| Al rfl <| As rfl hw11)) ?_
         refine Aa rfl (Bp (Ae) Ad rfl (by omega) (by omega)) ?_
         refine Aa rfl (Ac (Ae)) ?_
         refine Ah <| Ab ⟨_, m4 - 1, Off.eq (ou32 rfl <| Ba), by omega, ?_⟩
         exact ⟨q + 1, by omega, (Ae), _, _, ho4, rel_more hI hd hlq, rfl⟩
        ·
         refine Af <| Af <| Ai fun ds => Aa rfl (Ag (As rfl hw11)) ?_
         refine Aa rfl (Ag (Al rfl <| Ak rfl <| Az rfl <| Al rfl <| Ak rfl <| Az rfl <| Al rfl <| Ak rfl <| Az rfl <| Al rfl <| Ak rfl <| Az rfl <| Aj rfl)) ?_
         refine Aa rfl (Bh sl_137 (Ae) hmo.plain) ?_
         refine Aa rfl (Br (Ar rfl <| Ae) (Ae)) ?_
         refine Ah <| Ab <| Am (Ae) (by first | rfl | exact decide_eq_false (by omega)) ?_
         obtain rfl : q = M.length := by omega
         refine Bn ?_
         refine Bd <| Bd <| Bf <| Bb <| Ab <| Ai fun ds => Aa rfl (Ag (Az rfl <| Ak rfl <| Az rfl <| Al rfl <| Ak rfl <| Az rfl <| Al rfl <| As rfl ht9)) ?_
         refine Aa rfl (Bp (Ae) Ad rfl (by omega) (by omega)) ?_
         refine Aa rfl (Ac (Ae)) ?_
         refine Ah <| Ab ⟨_, m2 - 1, Off.eq (Dy rfl <| Eb rfl <| Df rfl <| Do rfl <| Dy rfl <| Df rfl <| Do rfl <| Dy rfl <| Df rfl <| Ba), by omega, ?_⟩
         exact ⟨r + 1, by omega, (Ae), _, _, ho, rel_round hI, rfl⟩
    ·
     refine Af <| Af <| Ai fun ds => Aa rfl (Ag (As rfl ht9)) ?_
     refine Aa rfl (Ag (Al rfl <| Ak rfl <| Az rfl <| Al rfl <| Ak rfl <| Az rfl <| Aj rfl)) ?_
     refine Aa rfl (Bh Be (Ae) hl.plain) ?_
     refine Aa rfl (D0 (Ar rfl <| Ae) (Ae)) ?_
     refine Ah <| Ab <| Am (Ae) (by first | rfl | exact decide_eq_false (by omega)) ?_
     rw [rel_full hI (by omega)] at ho
     refine Bn ?_
     refine Bd <| Bd <| Bf <| Ab <| Af <| Af <| Ai fun ds => Aa rfl (Ac Ad) ?_
     refine Ah <| Ab <| A0 <| Bs [6, 12, 93, 94, 95, 96, 97, 98, 99, 100, 101, 102, 103, 104, 105, 106, 107, 108, 109, 110] (fun m e σ => ∃ i : Nat, m + i = s.editions.length ∧ e 12 = .int .i64 (i : Int) ∧ σ = ⟨F, (b1, bx 25 [vp, ve]) :: R7⟩ ∧ ∀ j, j < i → firstY s (treeE l ++ M) j ≤ (s.ed j).hi) (s.editions.length) ?_ ?_
     · exact ⟨0, by omega, (Ae), rfl, fun j h => absurd h (by omega)⟩
     ·
      rintro m5 e5 _ ⟨i, hm5, hx12, rfl, hno⟩
      by_cases hlt : i < s.editions.length
      ·
       have hip : i < ps.length := by omega
       have e1 := hr.at hip
       refine Af <| Af <| Ai fun ds => Aa rfl (Ag (As rfl hx12)) ?_
       refine Aa rfl (Ag (Al rfl <| Ak rfl <| Az rfl <| Al rfl <| Ak rfl <| Az rfl <| Al rfl <| As rfl hs7)) ?_
       refine Aa rfl (Bh Be (Ae) (ho.plain (by omega))) ?_
       refine Aa rfl (Br (Ar rfl <| Ae) (Ae)) ?_
       refine Ah <| Ab <| Aq (Ae) (by first | rfl | exact decide_eq_true (by omega)) ?_
       by_cases hb : (s.ed i).hi < firstY s (treeE l ++ M) i
       ·
        refine Au <| Ab <| Af <| A0 <| Af <| Cp (.inl rfl) (fun _ _ h => h) (by kernel_rfl) (by kernel_rfl) fun ds => ?_
        refine Bi rfl (Ag (Az rfl <| Ak rfl <| Az rfl <| Al rfl <| Ak rfl <| Az rfl <| Al rfl <| As rfl hs7)) ?_
        refine Bi rfl (Ag (Az rfl <| Al rfl <| As rfl hx12)) ?_
        refine Bi rfl (A9 (k := i) Be (Al rfl <| Ae) (ho.plain (by omega)) (Ae) rfl hlt) ?_
        refine Bi rfl (Ap Bl (Ae) (Dx ho (fun p hp => .tail _ (hp)) (iL_get hlt))) ?_
        refine Bi rfl (Ao Bv (A7 rfl <| Ak rfl <| Az rfl <| Al rfl <| Ak rfl <| Az rfl <| Al rfl <| Ak rfl <| Ar rfl <| Al rfl <| Ae)) ?_
        refine Bi rfl (Ap Bz (Ae) (Cell.own 0 rfl rfl)) ?_
        refine Bi rfl (Ag (A7 rfl <| Ar rfl <| As rfl hx12)) ?_
        refine Bi rfl (A9 (k := i) B7 (Al rfl <| Ae) hr.eds.plain (Ae) rfl hip) ?_
        refine Bi rfl (Bt Dm (Ae)) ?_
        refine Bi rfl (Bt Dn (Ae)) ?_
        refine Bi rfl (Ap Bl (Ae) (hr.eds.cell (j := 1 + 1) hip rfl)) ?_
        refine Bi rfl (Ds (Az rfl <| Ar rfl <| Al rfl <| Ae) (Ae)) ?_
        refine C3 ?_
        refine Ab <| Aq (Ae) (by rw [e1]; exact decide_eq_true hb) ?_
        refine Af <| Ai fun ds => Aa rfl (Ac Ad) ?_
        refine Ah <| Ab <| A4 <| Bm (Bc (Bc (Bm (Bc ?_))))
        refine Ay rfl (.tmp (Ae) .nil) ?_
        exact .inr ⟨fitsE_no hlt hb, rfl⟩
       ·
        refine Au <| Ab <| Af <| A0 <| Af <| Cp (.inl rfl) (fun _ _ h => h) (by kernel_rfl) (by kernel_rfl) fun ds => ?_
        refine Bi rfl (Ag (Az rfl <| Ak rfl <| Az rfl <| Al rfl <| Ak rfl <| Az rfl <| Al rfl <| As rfl hs7)) ?_
        refine Bi rfl (Ag (Az rfl <| Al rfl <| As rfl hx12)) ?_
        refine Bi rfl (A9 (k := i) Be (Al rfl <| Ae) (ho.plain (by omega)) (Ae) rfl hlt) ?_
        refine Bi rfl (Ap Bl (Ae) (Dx ho (fun p hp => .tail _ (hp)) (iL_get hlt))) ?_
        refine Bi rfl (Ao Bv (A7 rfl <| Ak rfl <| Az rfl <| Al rfl <| Ak rfl <| Az rfl <| Al rfl <| Ak rfl <| Ar rfl <| Al rfl <| Ae)) ?_
        refine Bi rfl (Ap Bz (Ae) (Cell.own 0 rfl rfl)) ?_
        refine Bi rfl (Ag (A7 rfl <| Ar rfl <| As rfl hx12)) ?_
        refine Bi rfl (A9 (k := i) B7 (Al rfl <| Ae) hr.eds.plain (Ae) rfl hip) ?_
        refine Bi rfl (Bt Dm (Ae)) ?_
        refine Bi rfl (Bt Dn (Ae)) ?_
        refine Bi rfl (Ap Bl (Ae) (hr.eds.cell (j := 1 + 1) hip rfl)) ?_
        refine Bi rfl (Ds (Az rfl <| Ar rfl <| Al rfl <| Ae) (Ae)) ?_
        refine C3 ?_
        refine Ab <| Am (Ae) (by rw [e1]; exact decide_eq_false hb) ?_
        refine Au <| Bb <| Ab <| Ai fun ds => Aa rfl (Ag (A5 rfl <| As rfl hx12)) ?_
        refine Aa rfl (Bp (Ae) Ad rfl (by omega) (by omega)) ?_
        refine Aa rfl (Ac (Ae)) ?_
        refine Ah <| Ab ⟨_, m5 - 1, Off.eq (Cq rfl <| Eb rfl <| Df rfl <| Ba), by omega, ?_⟩
        refine ⟨i + 1, by omega, (Ae), rfl, fun j hj => ?_⟩
        rcases Nat.lt_succ_iff_lt_or_eq.1 hj with hj | rfl
        · exact hno j hj
        · omega
      ·
       refine Af <| Af <| Ai fun ds => Aa rfl (Ag (As rfl hx12)) ?_
       refine Aa rfl (Ag (Al rfl <| Ak rfl <| Az rfl <| Al rfl <| Ak rfl <| Az rfl <| Al rfl <| As rfl hs7)) ?_
       refine Aa rfl (Bh Be (Ae) (ho.plain (by omega))) ?_
       refine Aa rfl (Br (Ar rfl <| Ae) (Ae)) ?_
       refine Ah <| Ab <| Am (Ae) (by first | rfl | exact decide_eq_false (by omega)) ?_
       replace ho := ho.to (C5 (f := firstY s (treeE l ++ M))).symm
       refine Cn (σ := ⟨_, _⟩) (by rfl) ho (.s <| .z) .last fun F15 hF16 hz17 => ?_
       have hn7 := ho.sl (fun _ => rfl) hz17 (by rw [C5]; omega)
       refine Bn ?_
       refine Bd <| Bd <| Bf <| Ab <| Af <| Ai fun ds => Aa rfl (Ag (Az rfl <| Ak rfl <| Az rfl <| Al rfl <| Ak rfl <| Az rfl <| Al rfl <| As rfl hs7)) ?_
       refine Aa rfl (Ac (Ae)) ?_
       refine Ah <| Ab <| A4 <| Ay rfl (.tmp (Ae) .nil) ?_
       exact .inl ⟨fitsE_iff.2 fun j hj => hno j (by omega), hn7⟩
end Go.Proofs.Ytccogmkhijgelaa
namespace Go.Proofs.Ytccogmkhijgelaa
open Go.RowKit
section
variable {P : Program} {n : Nat} {B : Base} {e : Env} {σ : St} {d : Option Nat} {ty : TypeId} {pos : String} {af : Array Edge} {gd : Option (Nat × Bool)}
theorem q_neqNil {T E : Nat} {x y : Operand} {a : Option Addr} {k c : Nat} {u : TypeId} (hT : P.underlying T = some (.slice E)) (hx : ev e x = .slice a k c) (hy : ev e y = .slice none 0 0) :
   OpR P B ⟨d, .binOp .neq T x y u, ty, pos, af, gd⟩ e σ (.bool (!a.isNone)) := fun w _ => by
 have h1 : (binOp .neq T (.slice a k c) (.slice none 0 0)).run P w = .ok (.bool (!a.isNone)) w := by
   simp only [binOp]
   simp [Op.equal, Op.maxDepth, run_equalIn_slice_nil hT a k c 9999 w]
 simp only [execOp, hx, hy, eqGuard, Bool.not_true, Bool.false_eq_true, ite_self, Sem.run_bind, Sem.run_pure, Result.andThen_ok, h1]
end
end Go.Proofs.Ytccogmkhijgelaa
namespace Go.Proofs.Ytccogmkhijgelaa
open Go.RowKit
theorem bd_74 : Body Try.prog 74 := Bo (by kernel_rfl)
set_option maxRecDepth 100000 in
theorem refFits_ok {F : Heap} {vp ve : Value} {ps : List (Value × Edn)} {s : Stm} (hr : StmR F vp ve ps s) (hv : ValidT s) {v : Value} {l : List Int} (hl : Ints F v l) (hll : l.length = s.editions.length) (ht : IsTree l) : Ok Try.prog 94 [.agg #[vp, ve], v].toArray F fun u _ => u = .bool (fitsT s l) := by
 have hle0 : F.le F := Heap.le_refl _
 refine Ok.intro Try.func94 rfl Try.ntmps94 rfl fun w0 => ?_
 have hne := hv.ne
 refine Af <| Ai fun ds => Bk rfl (B1 (Aj rfl) rfl fun b1 hb1 nb1 => ?_)
 refine Aa rfl (Ac Ad) ?_
 refine Ah <| Ab <| Af <| Ai fun ds => Aa rfl (A8 Bw (Al rfl <| Ae) rfl rfl (A3 0 rfl)) ?_
 refine Aa rfl (Ag (Ar rfl <| Al rfl <| Aj rfl)) ?_
 refine Bk rfl (B6 bd_74 A1 (.cons (Al rfl <| Ae) (.cons (Ae) (.cons Ad .nil))) (earliest_ok hr hv hl hll ht (vm := .slice none 0 0) (M := []) Sl.nil (by rw [List.append_nil, ← hll]; exact ht.dag)) fun v2 F3 hr4 hF5 => ?_)
 have her := hr4
 obtain ⟨a9, k9, c9, rfl, hn9⟩ := her.nil (by omega)
 refine Aa rfl (q_neqNil Try.underlying26 (Ae) Ad) ?_
 refine Aa rfl (Ac (Ae)) ?_
 refine Ah <| Ab <| A4 <| Ay rfl (.tmp (Ae) .nil) ?_
 show _ = _
 have h8 : a9.isNone = !(fitsT s l) := by have h7 := hn9; rw [List.append_nil] at h7; unfold fitsT; rw [← h7]; cases a9 <;> rfl
 rw [h8, Bool.not_not]; rfl
end Go.Proofs.Ytccogmkhijgelaa
namespace Go.Proofs.Ytccogmkhijgelaa
open Go.RowKit
def slZ (p : Value × List Int) : List Value := [p.1]
def AllZ (F : Heap) (ps : List (Value × List Int)) : Prop := ∀ p ∈ ps, Ints F p.1 p.2
def LstZ (F : Heap) (v : Value) (ls : List (List Int)) : Prop := ∃ ps : List (Value × List Int), Sl F v 1 slZ ps ∧ AllZ F ps ∧ ps.map (·.2) = ls
theorem AllZ.mono {F F' : Heap} {ps : List (Value × List Int)} (h : AllZ F ps) (hF : F.le F') : AllZ F' ps := fun p hp => (h p hp).mono hF
theorem LstZ.mono {F F' : Heap} {v : Value} {ls : List (List Int)} (h : LstZ F v ls) (hF : F.le F') : LstZ F' v ls := by
 obtain ⟨ps, h1, h2, h3⟩ := h
 exact ⟨ps, h1.mono hF, h2.mono hF, h3⟩
theorem AllZ.one {F : Heap} {ps : List (Value × List Int)} (h : AllZ F ps) : ∀ x ∈ ps, ∀ u ∈ slZ x, u.oneCell' = true := fun x hx u hu => by
 simp only [slZ, List.mem_cons, List.not_mem_nil, or_false] at hu
 subst hu; exact (h x hx).plain.one
theorem AllZ.add {F : Heap} {ps qs : List (Value × List Int)} (h : AllZ F ps) (h2 : AllZ F qs) : AllZ F (ps ++ qs) := fun p hp => (List.mem_append.1 hp).elim (h p) (h2 p)
theorem AllZ.snoc {F : Heap} {ps : List (Value × List Int)} {v : Value} {l : List Int} (h : AllZ F ps) (h2 : Ints F v l) : AllZ F (ps ++ [(v, l)]) := h.add fun p hp => by simp at hp; subst hp; exact h2
theorem AllZ.nil {F : Heap} : AllZ F [] := fun _ hp => nomatch hp
theorem flat_sndZ {ps qs : List (Value × List Int)} : (ps ++ qs).flatMap slZ = ps.flatMap slZ ++ qs.flatMap slZ := List.flatMap_append
theorem lstz_box1 {F : Heap} {b T : Nat} {v : Value} (h : F b = some (bx T [v])) : ∀ l : List Int, Ints F v l → LstZ F (.slice (some ⟨b, 0, none⟩) 1 1) [l] := fun l hv =>
 ⟨[(v, l)], sl_box (xs := [(v, l)]) h rfl rfl (fun _ => rfl) (by decide), AllZ.nil.snoc hv, rfl⟩
theorem LstZ.nil {F : Heap} : LstZ F (.slice none 0 0) [] := ⟨[], Sl.nil, AllZ.nil, rfl⟩
section
variable {s : Stm} {p r j : Nat} {b : List Int}
def filTo (s : Stm) (p r : Nat) (b : List Int) (j : Nat) : List (List Int) := (([1, 2, 3] : List Int).take j).flatMap fun n => if fitR s p b.length n then fillF s p r (b ++ [n]) else []
theorem filTo_end : filTo s p r b 3 = fillF s p (r + 1) b := rfl
theorem filTo_succ (hj : j < 3) : filTo s p r b (j + 1) = filTo s p r b j ++ if fitR s p b.length ((j : Int) + 1) then fillF s p r (b ++ [(j : Int) + 1]) else [] := by
 unfold filTo
 match j, hj with
 | 0, _ => simp
 | 1, _ => simp
 | 2, _ => simp
theorem filTo_yes (hj : j < 3) (h : fitR s p b.length ((j : Int) + 1)) : filTo s p r b (j + 1) = filTo s p r b j ++ fillF s p r (b ++ [(j : Int) + 1]) := by rw [filTo_succ hj, if_pos h]
theorem filTo_no (hj : j < 3) (h : ¬ fitR s p b.length ((j : Int) + 1)) : filTo s p r b (j + 1) = filTo s p r b j := by rw [filTo_succ hj, if_neg h, List.append_nil]
theorem fill_len : ∀ {r : Nat} {b : List Int}, (fillF s p r b).length ≤ 3 ^ r
 | 0, b => by simp [fillF]
 | r + 1, b => by
   have h : ∀ n : Int, (if fitR s p b.length n then fillF s p r (b ++ [n]) else []).length ≤ 3 ^ r := fun n => by
     split
     · exact fill_len
     · simp
   have h1 := h 1
   have h2 := h 2
   have h3 := h 3
   unfold fillF
   simp only [List.flatMap_cons, List.flatMap_nil, List.length_append, List.length_nil]
   rw [Nat.pow_succ]
   omega
theorem filTo_len (hj : j ≤ 3) : (filTo s p r b j).length ≤ 3 ^ r * 3 := by
 rw [← Nat.pow_succ]
 refine Nat.le_trans ?_ (fill_len (s := s) (p := p) (r := r + 1) (b := b))
 rw [← filTo_end]
 match j, hj with
 | 0, _ => simp [filTo]
 | 1, _ => rw [filTo_succ (j := 2) (by omega), filTo_succ (j := 1) (by omega), List.length_append, List.length_append]; omega
 | 2, _ => rw [filTo_succ (j := 2) (by omega), List.length_append]; omega
 | 3, _ => exact Nat.le_refl _
theorem fill_len5 (hr : r ≤ 5) : (fillF s p r b).length ≤ 243 := Nat.le_trans fill_len (Nat.pow_le_pow_right (n := 3) (by omega) hr)
theorem filTo_len5 (hr : r ≤ 5) (hj : j ≤ 3) : (filTo s p r b j).length ≤ 729 := by
 have h1 := filTo_len (s := s) (p := p) (r := r) (b := b) hj
 have h2 : 3 ^ r ≤ 3 ^ 5 := Nat.pow_le_pow_right (by omega) hr
 omega
theorem Cv {α β : Type} {f : α → β} {l : List α} {m : List β} (h : l.map f = m) : l.length = m.length := by rw [← h, List.length_map]
theorem fitR_known (h0 : s.r b.length p ≠ 0) : fitR s p b.length ((j : Int) + 1) ↔ s.r b.length p = (j : Int) + 1 := ⟨fun h => h.resolve_left h0, .inr⟩
end
section
variable {s : Stm} {l xs : List Int} {p i : Nat}
def leastTo (s : Stm) (l : List Int) (p k : Nat) : Int := ((allFill s p).take k).foldl (fun m xs => min m (countL s l p xs)) 1000
theorem leastTo_succ (h : i < (allFill s p).length) : leastTo s l p (i + 1) = min (leastTo s l p i) (countL s l p (allFill s p)[i]) := by
 unfold leastTo; rw [List.take_succ_eq_append_getElem h, List.foldl_append]; rfl
theorem leastTo_end (h : (allFill s p).length ≤ i) : leastTo s l p i = leastL s l p := by unfold leastTo leastL; rw [List.take_of_length_le h]
theorem possB_no (hi : i < l.length) (h : possAt s l p (upN xs) i = false) : countL s l p xs = 1000 := by
 unfold countL
 rw [if_neg]
 unfold possB
 rw [List.all_eq_true]
 intro h2
 have := h2 i (List.mem_range.2 hi)
 rw [h] at this; cases this
theorem possB_yes (h : ∀ i, i < l.length → possAt s l p (upN xs) i = true) : countL s l p xs = changesOf l (upN xs) := by
 unfold countL
 rw [if_pos]
 unfold possB
 rw [List.all_eq_true]
 intro i hi
 exact h i (List.mem_range.1 hi)
theorem poss_root (hu : upN l i = -1) : possAt s l p (upN xs) i = true := by unfold possAt; rw [decide_eq_true hu]; rfl
theorem poss_free (hk : freeP s p = true) : possAt s l p (upN xs) i = true := by unfold possAt; rw [hk]; simp
theorem poss_ge {k : Nat} (hu : upN l i = (k : Int)) (h : ¬ upN xs i < upN xs k) : possAt s l p (upN xs) i = true := by
 unfold possAt
 rw [hu, Int.toNat_natCast]
 by_cases e : upN xs k = upN xs i
 · rw [decide_eq_true e]; simp
 · rw [decide_eq_true (show upN xs k < upN xs i by omega)]; simp
theorem poss_lt {k : Nat} (hu : upN l i = (k : Int)) (hk : freeP s p = false) (h : upN xs i < upN xs k) : possAt s l p (upN xs) i = false := by
 unfold possAt
 rw [hu, Int.toNat_natCast, hk, decide_eq_false (show ¬ (k : Int) = -1 by omega), decide_eq_false (show ¬ upN xs k = upN xs i by omega), decide_eq_false (show ¬ upN xs k < upN xs i by omega)]
 rfl
theorem free_no (h : (s.pl p).kind = 1) : freeP s p = false := by unfold freeP; rw [h]; rfl
theorem free_yes (hv : ValidT s) (hp : p < s.places.length) (h : (s.pl p).kind ≠ 1) : freeP s p = true := by
 have := hv.kind p hp
 exact decide_eq_true (by omega)
theorem sum_chg_bound {g : Nat → Int} {k : Nat} : 0 ≤ sumN k (chg l g) ∧ sumN k (chg l g) ≤ k := by
 induction k with
 | zero => exact ⟨Int.le_refl _, Int.le_refl _⟩
 | succ k ih =>
   have := chg_bound (l := l) (g := g) (k := k)
   show 0 ≤ sumN k _ + _ ∧ sumN k _ + _ ≤ _
   omega
theorem chg_root {g : Nat → Int} (hu : upN l i = -1) : chg l g i = 0 := if_pos hu
theorem chg_same {g : Nat → Int} {k : Nat} (hu : upN l i = (k : Int)) (h : g k = g i) : chg l g i = 0 := by rw [chg_at hu, if_pos h]
theorem chg_not {g : Nat → Int} {k : Nat} (hu : upN l i = (k : Int)) (h : g k ≠ g i) : chg l g i = 1 := by rw [chg_at hu, if_neg h]
theorem sum_least_bound {k : Nat} : 0 ≤ sumN k (leastL s l) ∧ sumN k (leastL s l) ≤ 1000 * k := by
 induction k with
 | zero => exact ⟨Int.le_refl _, Int.le_refl _⟩
 | succ k ih =>
   have := Eq (s := s) (l := l) (p := k)
   show 0 ≤ sumN k _ + _ ∧ sumN k _ + _ ≤ _
   omega
theorem costL_fits (h : fitsT s l = true) : costL s l = min (sumN s.places.length (leastL s l)) 1000 := if_pos h
theorem costL_no (h : fitsT s l = false) : costL s l = 1000 := if_neg (by unfold fitsT at h; rw [h]; simp)
end
section
variable {s : Stm} {l : List Int} {r i : Nat} {lo hi : Nat → Int}
end
end Go.Proofs.Ytccogmkhijgelaa
namespace Go.Proofs.Ytccogmkhijgelaa
open Go.RowKit
theorem bd_71 : Body Try.prog 71 := Bo (by kernel_rfl)
theorem bd_88 : Body Try.prog 88 := Bo (by kernel_rfl)
theorem bd_89 : Body Try.prog 89 := Bo (by kernel_rfl)
theorem bd_90 : Body Try.prog 90 := Bo (by kernel_rfl)
theorem bd_94 : Body Try.prog 94 := Bo (by kernel_rfl)
theorem el_26 : ElemT Try.prog 26 1 24 (.slice none 0 0) := elemT_of (by kernel_rfl) rfl (by decide)
theorem Ce : SliceT Try.prog 114 26 1 := En (by kernel_rfl)
set_option maxRecDepth 100000 in
theorem filled_zero {F : Heap} {vp ve : Value} {ps : List (Value × Edn)} {s : Stm} (hr : StmR F vp ve ps s) (hv : ValidT s) {p : Nat} (_hp : p < s.places.length) {v : Value} {b : List Int} (hb : Ints F v b) (hbl : b.length = s.editions.length) : Ok Try.prog 89 [.agg #[vp, ve], .int .i64 (p : Int), v].toArray F fun u F' => LstZ F' u (fillF s p 0 b) := by
 refine Ok.intro Try.func89 rfl Try.ntmps89 rfl fun w0 => ?_
 have hL := hb.plain.lt
 have hlen := hr.len
 have hL1 := hr.eds.plain.lt
 have hne := hv.ne
 refine Af <| Ai fun ds => Bk rfl (B1 (Aj rfl) rfl fun b1 hb1 nb1 => ?_)
 refine Aa rfl (Ac Ad) ?_
 refine Ah <| Ab <| Af <| Af <| Ai fun ds => Aa rfl (Ag (Ar rfl <| Aj rfl)) ?_
 refine Aa rfl (Bh Be (Ae) hb.plain) ?_
 refine Aa rfl (Ao Bv (Ar rfl <| Al rfl <| Ae)) ?_
 refine Aa rfl (Ap Bz (Ae) (Cell.own 0 rfl rfl)) ?_
 refine Aa rfl (Bh B7 (Ae) hr.eds.plain) ?_
 refine Aa rfl (Bx (Ar rfl <| Al rfl <| Ae) (Ae)) ?_
 refine Ah <| Ab <| Aq (Ae) (decide_eq_true (by omega)) ?_
 refine Af <| Ai fun ds => Aa rfl (Ag (A7 rfl <| Aj rfl)) ?_
 refine Bk rfl (B2 Ce zr_26 rfl (.cons (Ae) .nil) rfl rfl (by decide) (by intro u hu; simp only [List.mem_cons, List.not_mem_nil, or_false] at hu; subst hu; exact hb.plain.one) fun b2 hb2 nb2 => ?_)
 refine B9 (i := 0) rfl hb2 .here fun F3 hF4 hz5 => ?_
 replace hb := hb.mono hF4
 have hsl6 := lstz_box1 hz5
 refine Aa rfl (Ac (Ae)) ?_
 refine Ah <| Ab <| A4 <| Bc ?_
 refine Ay rfl (.tmp (Ae) .nil) ?_
 exact hsl6 _ hb
set_option maxRecDepth 100000 in
theorem filled_step {F : Heap} {vp ve : Value} {ps : List (Value × Edn)} {s : Stm} (hr : StmR F vp ve ps s) (hv : ValidT s) {p : Nat} (_hp : p < s.places.length) {v : Value} {b : List Int} (hb : Ints F v b) {r : Nat} (hbl : b.length + (r + 1) = s.editions.length) (ih : ∀ {G : Heap} {w : Value} {c : List Int}, StmR G vp ve ps s → Ints G w c → c.length + r = s.editions.length → Ok Try.prog 89 [.agg #[vp, ve], .int .i64 (p : Int), w].toArray G fun u G2 => LstZ G2 u (fillF s p r c)) : Ok Try.prog 89 [.agg #[vp, ve], .int .i64 (p : Int), v].toArray F fun u F' => LstZ F' u (fillF s p (r + 1) b) := by
 have hle0 : F.le F := Heap.le_refl _
 refine Ok.intro Try.func89 rfl Try.ntmps89 rfl fun w0 => ?_
 have hL := hb.plain.lt
 have hlen := hr.len
 have hL1 := hr.eds.plain.lt
 have hne := hv.ne
 have hxn : b.length < s.editions.length := by omega
 have hxp : b.length < ps.length := by omega
 have hrx := hr.rd hxp
 have hpx : p < (s.ed b.length).rd.length := by rw [hv.rdl _ hxn]; exact _hp
 have er := rdT_at hpx
 refine Af <| Ai fun ds => Bk rfl (B1 (Aj rfl) rfl fun b1 hb1 nb1 => ?_)
 refine Aa rfl (Ac Ad) ?_
 refine Ah <| Ab <| Af <| Af <| Ai fun ds => Aa rfl (Ag (Ar rfl <| Aj rfl)) ?_
 refine Aa rfl (Bh Be (Ae) hb.plain) ?_
 refine Aa rfl (Ao Bv (Ar rfl <| Al rfl <| Ae)) ?_
 refine Aa rfl (Ap Bz (Ae) (Cell.own 0 rfl rfl)) ?_
 refine Aa rfl (Bh B7 (Ae) hr.eds.plain) ?_
 refine Aa rfl (Bx (Ar rfl <| Al rfl <| Ae) (Ae)) ?_
 refine Ah <| Ab <| Am (Ae) (decide_eq_false (by omega)) ?_
 refine Au <| Ab <| Af <| Ai fun ds => Aa rfl (Ac Ad) ?_
 refine Ah <| Ab <| Af <| Ai fun ds => Aa rfl (Ao Bv (A7 rfl <| Ae)) ?_
 refine Aa rfl (Ap Bz (Ae) (Cell.own 0 rfl rfl)) ?_
 refine Aa rfl (Ag (A7 rfl <| Ar rfl <| Al rfl <| Aj rfl)) ?_
 refine Aa rfl (Bh Be (Ae) hb.plain) ?_
 refine Aa rfl (A9 (k := b.length) B7 (Ar rfl <| Ae) hr.eds.plain (Ae) rfl hxp) ?_
 refine Aa rfl (Bt Cf (Ae)) ?_
 refine Aa rfl (Ap B8 (Ae) (hr.eds.cell hxp rfl)) ?_
 refine Aa rfl (Ag (A5 rfl <| Aj rfl)) ?_
 refine Aa rfl (A9 (k := p) Be (Al rfl <| Ae) hrx.plain (Ae) rfl hpx) ?_
 refine Aa rfl (Ap Bl (Ae) (hrx.cell1 hpx rfl)) ?_
 refine Aa rfl (Ac (Ae)) ?_
 refine Ah <| Ab <| Af <| Af <| Ai fun ds => Aa rfl (Ac Ad) ?_
 refine Ah <| Ab <| A0 <| Bs [7, 9, 28, 29, 30, 31, 32, 33, 34, 35, 36, 37, 38, 39, 40, 41, 42, 43, 44, 45, 46, 47, 48, 49] (fun m e σ => ∃ G, F.le G ∧ StmR G vp ve ps s ∧ Ints G v b ∧ ∃ j : Nat, m + j = 3 ∧ e 9 = .int .i64 ((j : Int) + 1) ∧ ∃ v7 R7 qs, e 7 = v7 ∧ Own 26 1 v7 qs.length (qs.flatMap slZ) R7 ∧ AllZ G qs ∧ qs.map (·.2) = filTo s p r b j ∧ σ = ⟨G, (b1, bx 25 [vp, ve]) :: R7⟩) (3) ?_ ?_
 · exact ⟨_, hle0, hr, hb, 0, by omega, (Ae), _, _, [], (A7 rfl <| Az rfl <| Ae), Own.nil, AllZ.nil, rfl, rfl⟩
 ·
  rintro m e _ ⟨G, hle0, hr, hb, j, hm, hs9, v7, R7, qs, hs7, ho, hqa, hqs, rfl⟩
  by_cases hlt : j < 3
  ·
   refine Af <| Af <| Ai fun ds => Aa rfl (Ag (As rfl hs9)) ?_
   refine Aa rfl (D0 (Ae) Ad) ?_
   refine Ah <| Ab <| Aq (Ae) (decide_eq_true (by omega)) ?_
   have hqb : qs.length ≤ 729 := by rw [Cv hqs]; exact filTo_len5 (by omega) (by omega)
   by_cases hz : s.r b.length p = 0
   ·
    have hfit : fitR s p b.length ((j : Int) + 1) := .inl hz
    refine Au <| Ab <| Af <| A0 <| Af <| Ai fun ds => Aa rfl (Ag (Ar rfl <| Ak rfl <| Al rfl <| Ae)) ?_
    refine Aa rfl (Bx (Ae) Ad) ?_
    refine Aa rfl (Ag (Ae)) ?_
    refine Aw rfl rfl (Ae) (.inl (congrArg Value.bool (by rw [er]; exact decide_eq_true hz))) rfl ?_
    refine Aw rfl rfl (Al rfl <| Ae) (.inl (congrArg Value.bool (by rw [er]; exact decide_eq_true hz))) rfl ?_
    refine Aw rfl rfl (Ar rfl <| Ae) (.inl (congrArg Value.bool (by rw [er]; exact decide_eq_true hz))) rfl ?_
    refine Aa rfl (A6 (Ar rfl <| Al rfl <| Ae) (by rw [er]; exact decide_eq_true hz) Ad) ?_
    refine Ah <| Ab <| Aq (Ae) rfl ?_
    have hleS := hle0
    refine Cu (.inl rfl) (fun _ _ h => h) (.cons_cons _ <| List.nil_sublist _) [] (by kernel_rfl) fun ds => ?_
    refine A2 0 rfl (by kernel_rfl) (by kernel_rfl) (by kernel_rfl) (by kernel_rfl) rfl rfl (fun _ h => h.drop (.cons_cons _ <| List.nil_sublist _)) (fun _ _ _ h => h) (Ag (A7 rfl <| Al rfl <| As rfl hs7)) ?_
    refine A2 1 rfl (by kernel_rfl) (by kernel_rfl) (by kernel_rfl) (by kernel_rfl) rfl rfl (fun _ h => h.drop (.cons_cons _ <| List.nil_sublist _)) (fun _ _ _ h => h) (A8 Bw (A7 rfl <| Ar rfl <| Ak rfl <| A5 rfl <| Az rfl <| Ae) rfl rfl (A3 0 rfl)) ?_
    refine A2 2 rfl (by kernel_rfl) (by kernel_rfl) (by kernel_rfl) (by kernel_rfl) rfl rfl (fun _ h => h.drop (.cons_cons _ <| List.nil_sublist _)) (fun _ _ _ h => h) (Ag (A7 rfl <| Ar rfl <| Al rfl <| Ak rfl <| A5 rfl <| Az rfl <| Al rfl <| Aj rfl)) ?_
    refine A2 4 rfl (by kernel_rfl) (by kernel_rfl) (by kernel_rfl) (by kernel_rfl) rfl rfl (fun _ h => h.drop (.cons_cons _ <| List.nil_sublist _)) (fun _ _ _ h => h) (Ag (A7 rfl <| Az rfl <| Ak rfl <| A5 rfl <| Az rfl <| Al rfl <| Aj rfl)) ?_
    refine A2 6 rfl (by kernel_rfl) (by kernel_rfl) (by kernel_rfl) (by kernel_rfl) rfl rfl (fun _ h => h.drop (.cons_cons _ <| List.nil_sublist _)) (fun _ _ _ h => h) (Ag (A7 rfl <| Az rfl <| Al rfl <| As rfl hs9)) ?_
    refine WX_pick [3, 7] (by kernel_rfl) (by decide) (in2 ?_ ?_)
    ·
     refine WXop_x rfl rfl (x_build0 Be fun b3 hb3 nb3 => ⟨fun _ _ => (fun _ h => h.drop (.cons _ <| .cons_cons _ <| List.nil_sublist _)), ?_⟩)
     refine WX_pick [5, 7] (by kernel_rfl) (by decide) (in2 ?_ ?_)
     ·
      refine WXop_x rfl rfl (B4 Be el_3 (Ae) (Eg rfl) (Ar rfl <| Ae) hb.srcInt (by omega) (by omega) (.z) .box fun v4 R5 ho6 => ⟨fun _ _ => (fun _ h => h.drop (List.sublist_append_of_sublist_right <| .cons_cons _ <| List.nil_sublist _)), ?_⟩)
      have ho2 : Own 3 1 v4 b.length (b.flatMap intE) R5 := by simpa using ho6
      refine Dr 7 rfl (by kernel_rfl) rfl (B2 Be Db rfl (.cons (Ar rfl <| Ae) .nil) rfl rfl (by decide) (by simp [Value.oneCell']) fun b7 hb7 nb7 => ⟨fun _ _ => (fun _ h => h.drop (.cons _ <| List.sublist_append_of_sublist_right <| .cons_cons _ <| List.nil_sublist _)), ?_⟩)
      refine Dr 8 rfl (by kernel_rfl) rfl (B4 Be el_3 (Al rfl <| Ae) ho2 (Ae) (C6 (s := 1) 0 rfl rfl (by simp [Value.oneCell'])) (by omega) (by omega) (.s <| .z) .more fun v8 R9 ho10 => ⟨fun _ _ => (fun _ h => h.drop (.cons _ <| List.sublist_append_of_sublist_right <| .cons_cons _ <| List.nil_sublist _)), ?_⟩)
      have ho3 := ho10.snoc (x := (j : Int) + 1) rfl rfl
      refine WX_freezeR (σ := ⟨_, _⟩) (by rfl) ho3 (.s <| .z) .more fun F11 hF12 hz13 => ?_
      replace hr := hr.mono hF12
      replace hb := hb.mono hF12
      replace hqa := hqa.mono hF12
      replace hle0 := Heap.le_trans hle0 hF12
      have hn2 := ho3.sl (fun _ => rfl) hz13 (by simp only [List.length_append, List.length_singleton]; omega)
      refine Dr 9 rfl (by kernel_rfl) rfl (B6 bd_89 A1 (.cons (Az rfl <| Ar rfl <| Al rfl <| Ae) (.cons (Az rfl <| Ar rfl <| Ae) (.cons (Ae) .nil))) (ih hr hn2 (by simp only [List.length_append, List.length_singleton]; omega)) fun v14 F15 hr16 hF17 => ⟨fun _ _ _ h => (h.drop (.cons _ <| .cons_cons _ <| List.nil_sublist _)).weak (Heap.le_trans hF12 hF17) hleS, ?_⟩)
      replace hr := hr.mono hF17
      replace hb := hb.mono hF17
      replace hqa := hqa.mono hF17
      replace hle0 := Heap.le_trans hle0 hF17
      obtain ⟨zs, hzs, hza, hzm⟩ := hr16
      have hzl : zs.length ≤ 243 := by rw [Cv hzm]; exact fill_len5 (by omega)
      refine Dr 10 rfl (by kernel_rfl) rfl (B4 Ce el_26 (A7 rfl <| Al rfl <| Ae) ho (Ae) (hzs.srcM (fun _ => rfl) hza.one) (by omega) (by omega) (.s <| .s <| .z) .last fun v18 R19 ho20 => ⟨fun _ _ => (fun _ h => (h.drop (.cons _ <| .cons_cons _ <| List.nil_sublist _)).weak (Heap.le_trans hF12 hF17) hleS), ?_⟩)
      have ho6 := ho20
      refine A2 11 rfl (by kernel_rfl) (by kernel_rfl) (by kernel_rfl) (by kernel_rfl) rfl rfl (fun _ h => (h.drop (.cons _ <| .cons_cons _ <| List.nil_sublist _)).weak (Heap.le_trans hF12 hF17) hleS) (fun _ _ _ h => h) (Ac (Ae)) ?_
      refine Cr (by kernel_rfl) ?_ _
      refine Bb <| Ab <| Cz (fun _ _ h => h.drop (.cons _ <| .cons_cons _ <| .refl _)) ?_
      refine Ai fun ds => Aa rfl (Ag (A5 rfl <| Az rfl <| Al rfl <| As rfl hs9)) ?_
      refine Aa rfl (Bp (Ae) Ad rfl (by omega) (by omega)) ?_
      refine Aa rfl (Ac (Ae)) ?_
      refine Ah <| Ab ⟨_, m - 1, Off.eq (Cq rfl <| Di rfl <| Ba), by omega, ?_⟩
      exact ⟨_, hle0, hr, hb, j + 1, by omega, ((Ae)).trans (congrArg (Value.int .i64) (by omega)), _, _, qs ++ zs, (Ar rfl <| Al rfl <| Ae), by rw [flat_sndZ, List.length_append]; exact ho6, hqa.add hza, by rw [List.map_append, hqs, hzm, filTo_yes hlt hfit], rfl⟩
     ·
      refine WXop_x rfl rfl (B2 Be Db rfl (.cons (Al rfl <| Ae) .nil) rfl rfl (by decide) (by simp [Value.oneCell']) fun b21 hb21 nb21 => ⟨fun _ _ => (fun _ h => h.drop (.cons _ <| .cons _ <| .cons_cons _ <| List.nil_sublist _)), ?_⟩)
      refine Dr 5 rfl (by kernel_rfl) rfl (B4 Be el_3 (Al rfl <| Ae) (Eg rfl) (Ar rfl <| Al rfl <| Ae) hb.srcInt (by omega) (by omega) (.s <| .z) .box fun v22 R23 ho24 => ⟨fun _ _ => (fun _ h => h.drop (.cons _ <| List.sublist_append_of_sublist_right <| .cons_cons _ <| List.nil_sublist _)), ?_⟩)
      have ho2 : Own 3 1 v22 b.length (b.flatMap intE) R23 := by simpa using ho24
      refine Dr 8 rfl (by kernel_rfl) rfl (B4 Be el_3 (Ae) ho2 (Al rfl <| Ae) (C6 (s := 1) 0 rfl rfl (by simp [Value.oneCell'])) (by omega) (by omega) (.s <| .z) .more fun v25 R26 ho27 => ⟨fun _ _ => (fun _ h => h.drop (.cons _ <| List.sublist_append_of_sublist_right <| .cons_cons _ <| List.nil_sublist _)), ?_⟩)
      have ho3 := ho27.snoc (x := (j : Int) + 1) rfl rfl
      refine WX_freezeR (σ := ⟨_, _⟩) (by rfl) ho3 (.s <| .z) .more fun F28 hF29 hz30 => ?_
      replace hr := hr.mono hF29
      replace hb := hb.mono hF29
      replace hqa := hqa.mono hF29
      replace hle0 := Heap.le_trans hle0 hF29
      have hn2 := ho3.sl (fun _ => rfl) hz30 (by simp only [List.length_append, List.length_singleton]; omega)
      refine Dr 9 rfl (by kernel_rfl) rfl (B6 bd_89 A1 (.cons (Az rfl <| Ar rfl <| Al rfl <| Ae) (.cons (Az rfl <| Ar rfl <| Ae) (.cons (Ae) .nil))) (ih hr hn2 (by simp only [List.length_append, List.length_singleton]; omega)) fun v31 F32 hr33 hF34 => ⟨fun _ _ _ h => (h.drop (.cons _ <| .cons_cons _ <| List.nil_sublist _)).weak (Heap.le_trans hF29 hF34) hleS, ?_⟩)
      replace hr := hr.mono hF34
      replace hb := hb.mono hF34
      replace hqa := hqa.mono hF34
      replace hle0 := Heap.le_trans hle0 hF34
      obtain ⟨zs, hzs, hza, hzm⟩ := hr33
      have hzl : zs.length ≤ 243 := by rw [Cv hzm]; exact fill_len5 (by omega)
      refine Dr 10 rfl (by kernel_rfl) rfl (B4 Ce el_26 (A7 rfl <| Al rfl <| Ae) ho (Ae) (hzs.srcM (fun _ => rfl) hza.one) (by omega) (by omega) (.s <| .s <| .z) .last fun v35 R36 ho37 => ⟨fun _ _ => (fun _ h => (h.drop (.cons _ <| .cons_cons _ <| List.nil_sublist _)).weak (Heap.le_trans hF29 hF34) hleS), ?_⟩)
      have ho6 := ho37
      refine A2 11 rfl (by kernel_rfl) (by kernel_rfl) (by kernel_rfl) (by kernel_rfl) rfl rfl (fun _ h => (h.drop (.cons _ <| .cons_cons _ <| List.nil_sublist _)).weak (Heap.le_trans hF29 hF34) hleS) (fun _ _ _ h => h) (Ac (Ae)) ?_
      refine Cr (by kernel_rfl) ?_ _
      refine Bb <| Ab <| Cz (fun _ _ h => h.drop (.cons _ <| .cons_cons _ <| .refl _)) ?_
      refine Ai fun ds => Aa rfl (Ag (A5 rfl <| Az rfl <| Al rfl <| As rfl hs9)) ?_
      refine Aa rfl (Bp (Ae) Ad rfl (by omega) (by omega)) ?_
      refine Aa rfl (Ac (Ae)) ?_
      refine Ah <| Ab ⟨_, m - 1, Off.eq (Cq rfl <| Di rfl <| Ba), by omega, ?_⟩
      exact ⟨_, hle0, hr, hb, j + 1, by omega, ((Ae)).trans (congrArg (Value.int .i64) (by omega)), _, _, qs ++ zs, (Ar rfl <| Al rfl <| Ae), by rw [flat_sndZ, List.length_append]; exact ho6, hqa.add hza, by rw [List.map_append, hqs, hzm, filTo_yes hlt hfit], rfl⟩
    ·
     refine WXop_x rfl rfl (B2 Be Db rfl (.cons (Ae) .nil) rfl rfl (by decide) (by simp [Value.oneCell']) fun b38 hb38 nb38 => ⟨fun _ _ => (fun _ h => h.drop (.cons _ <| .cons_cons _ <| List.nil_sublist _)), ?_⟩)
     refine Dr 3 rfl (by kernel_rfl) rfl (x_build0 Be fun b39 hb39 nb39 => ⟨fun _ _ => (fun _ h => h.drop (.cons _ <| .cons _ <| .cons_cons _ <| List.nil_sublist _)), ?_⟩)
     refine Dr 5 rfl (by kernel_rfl) rfl (B4 Be el_3 (Ae) (Eg rfl) (Ar rfl <| Al rfl <| Ae) hb.srcInt (by omega) (by omega) (.z) .box fun v40 R41 ho42 => ⟨fun _ _ => (fun _ h => h.drop (List.sublist_append_of_sublist_right <| .cons _ <| .cons_cons _ <| List.nil_sublist _)), ?_⟩)
     have ho2 : Own 3 1 v40 b.length (b.flatMap intE) R41 := by simpa using ho42
     refine Dr 8 rfl (by kernel_rfl) rfl (B4 Be el_3 (Ae) ho2 (Ar rfl <| Ae) (src_boxM (s := 1) (List.mem_append_right _ <| .head _) rfl (by simp [Value.oneCell'])) (by omega) (by omega) (.z) .more fun v43 R44 ho45 => ⟨fun _ _ => (fun _ h => h.drop (List.sublist_append_of_sublist_right <| .cons _ <| .cons_cons _ <| List.nil_sublist _)), ?_⟩)
     have ho3 := ho45.snoc (x := (j : Int) + 1) rfl rfl
     refine WX_freezeR (σ := ⟨_, _⟩) (by rfl) ho3 (.z) .more fun F46 hF47 hz48 => ?_
     replace hr := hr.mono hF47
     replace hb := hb.mono hF47
     replace hqa := hqa.mono hF47
     replace hle0 := Heap.le_trans hle0 hF47
     have hn2 := ho3.sl (fun _ => rfl) hz48 (by simp only [List.length_append, List.length_singleton]; omega)
     refine Dr 9 rfl (by kernel_rfl) rfl (B6 bd_89 A1 (.cons (Az rfl <| Ar rfl <| Al rfl <| Ae) (.cons (Az rfl <| Ar rfl <| Ae) (.cons (Ae) .nil))) (ih hr hn2 (by simp only [List.length_append, List.length_singleton]; omega)) fun v49 F50 hr51 hF52 => ⟨fun _ _ _ h => (h.drop (.cons _ <| .cons_cons _ <| List.nil_sublist _)).weak (Heap.le_trans hF47 hF52) hleS, ?_⟩)
     replace hr := hr.mono hF52
     replace hb := hb.mono hF52
     replace hqa := hqa.mono hF52
     replace hle0 := Heap.le_trans hle0 hF52
     obtain ⟨zs, hzs, hza, hzm⟩ := hr51
     have hzl : zs.length ≤ 243 := by rw [Cv hzm]; exact fill_len5 (by omega)
     refine Dr 10 rfl (by kernel_rfl) rfl (B4 Ce el_26 (A7 rfl <| Al rfl <| Ae) ho (Ae) (hzs.srcM (fun _ => rfl) hza.one) (by omega) (by omega) (.s <| .s <| .z) .last fun v53 R54 ho55 => ⟨fun _ _ => (fun _ h => (h.drop (.cons _ <| .cons_cons _ <| List.nil_sublist _)).weak (Heap.le_trans hF47 hF52) hleS), ?_⟩)
     have ho6 := ho55
     refine A2 11 rfl (by kernel_rfl) (by kernel_rfl) (by kernel_rfl) (by kernel_rfl) rfl rfl (fun _ h => (h.drop (.cons _ <| .cons_cons _ <| List.nil_sublist _)).weak (Heap.le_trans hF47 hF52) hleS) (fun _ _ _ h => h) (Ac (Ae)) ?_
     refine Cr (by kernel_rfl) ?_ _
     refine Bb <| Ab <| Cz (fun _ _ h => h.drop (.cons _ <| .cons_cons _ <| .refl _)) ?_
     refine Ai fun ds => Aa rfl (Ag (A5 rfl <| Az rfl <| Al rfl <| As rfl hs9)) ?_
     refine Aa rfl (Bp (Ae) Ad rfl (by omega) (by omega)) ?_
     refine Aa rfl (Ac (Ae)) ?_
     refine Ah <| Ab ⟨_, m - 1, Off.eq (Cq rfl <| Di rfl <| Ba), by omega, ?_⟩
     exact ⟨_, hle0, hr, hb, j + 1, by omega, ((Ae)).trans (congrArg (Value.int .i64) (by omega)), _, _, qs ++ zs, (Ar rfl <| Al rfl <| Ae), by rw [flat_sndZ, List.length_append]; exact ho6, hqa.add hza, by rw [List.map_append, hqs, hzm, filTo_yes hlt hfit], rfl⟩
   ·
    refine Au <| Ab <| Af <| A0 <| Af <| Ai fun ds => Aa rfl (Ag (Ar rfl <| Ak rfl <| Al rfl <| Ae)) ?_
    refine Aa rfl (Bx (Ae) Ad) ?_
    refine Aa rfl (Ag (Ae)) ?_
    refine At rfl rfl (Ae) (by rw [er]; exact decide_eq_false hz) ?_
    refine Aa rfl (Ag (Az rfl <| Al rfl <| Ak rfl <| Al rfl <| Ae)) ?_
    refine At rfl rfl (Al rfl <| Ae) (by rw [er]; exact decide_eq_false hz) ?_
    refine Aa rfl (Ag (Az rfl <| Ar rfl <| As rfl hs9)) ?_
    refine At rfl rfl (Ar rfl <| Ae) (by rw [er]; exact decide_eq_false hz) ?_
    refine Aa rfl (Bx (Al rfl <| Ae) (Ae)) ?_
    refine Aa rfl (Bg (Ar rfl <| Al rfl <| Ae) (by rw [er]; exact decide_eq_false hz) (Ae)) ?_
    refine Ah <| Ab ?_
    by_cases heq : s.r b.length p = (j : Int) + 1
    ·
     have hfit : fitR s p b.length ((j : Int) + 1) := .inr heq
     refine Aq (Ae) (by rw [er]; exact decide_eq_true heq) ?_
     have hleS := hle0
     refine Cu (.inl rfl) (fun _ _ h => h) (.cons_cons _ <| List.nil_sublist _) [] (by kernel_rfl) fun ds => ?_
     refine A2 0 rfl (by kernel_rfl) (by kernel_rfl) (by kernel_rfl) (by kernel_rfl) rfl rfl (fun _ h => h.drop (.cons_cons _ <| List.nil_sublist _)) (fun _ _ _ h => h) (Ag (A7 rfl <| Al rfl <| As rfl hs7)) ?_
     refine A2 1 rfl (by kernel_rfl) (by kernel_rfl) (by kernel_rfl) (by kernel_rfl) rfl rfl (fun _ h => h.drop (.cons_cons _ <| List.nil_sublist _)) (fun _ _ _ h => h) (A8 Bw (A7 rfl <| Ar rfl <| Ak rfl <| A5 rfl <| Az rfl <| Ae) rfl rfl (A3 0 rfl)) ?_
     refine A2 2 rfl (by kernel_rfl) (by kernel_rfl) (by kernel_rfl) (by kernel_rfl) rfl rfl (fun _ h => h.drop (.cons_cons _ <| List.nil_sublist _)) (fun _ _ _ h => h) (Ag (A7 rfl <| Ar rfl <| Al rfl <| Ak rfl <| A5 rfl <| Az rfl <| Al rfl <| Aj rfl)) ?_
     refine A2 4 rfl (by kernel_rfl) (by kernel_rfl) (by kernel_rfl) (by kernel_rfl) rfl rfl (fun _ h => h.drop (.cons_cons _ <| List.nil_sublist _)) (fun _ _ _ h => h) (Ag (A7 rfl <| Az rfl <| Ak rfl <| A5 rfl <| Az rfl <| Al rfl <| Aj rfl)) ?_
     refine A2 6 rfl (by kernel_rfl) (by kernel_rfl) (by kernel_rfl) (by kernel_rfl) rfl rfl (fun _ h => h.drop (.cons_cons _ <| List.nil_sublist _)) (fun _ _ _ h => h) (Ag (A7 rfl <| Az rfl <| Al rfl <| As rfl hs9)) ?_
     refine WX_pick [3, 7] (by kernel_rfl) (by decide) (in2 ?_ ?_)
     ·
      refine WXop_x rfl rfl (x_build0 Be fun b56 hb56 nb56 => ⟨fun _ _ => (fun _ h => h.drop (.cons _ <| .cons_cons _ <| List.nil_sublist _)), ?_⟩)
      refine WX_pick [5, 7] (by kernel_rfl) (by decide) (in2 ?_ ?_)
      ·
       refine WXop_x rfl rfl (B4 Be el_3 (Ae) (Eg rfl) (Ar rfl <| Ae) hb.srcInt (by omega) (by omega) (.z) .box fun v57 R58 ho59 => ⟨fun _ _ => (fun _ h => h.drop (List.sublist_append_of_sublist_right <| .cons_cons _ <| List.nil_sublist _)), ?_⟩)
       have ho2 : Own 3 1 v57 b.length (b.flatMap intE) R58 := by simpa using ho59
       refine Dr 7 rfl (by kernel_rfl) rfl (B2 Be Db rfl (.cons (Ar rfl <| Ae) .nil) rfl rfl (by decide) (by simp [Value.oneCell']) fun b60 hb60 nb60 => ⟨fun _ _ => (fun _ h => h.drop (.cons _ <| List.sublist_append_of_sublist_right <| .cons_cons _ <| List.nil_sublist _)), ?_⟩)
       refine Dr 8 rfl (by kernel_rfl) rfl (B4 Be el_3 (Al rfl <| Ae) ho2 (Ae) (C6 (s := 1) 0 rfl rfl (by simp [Value.oneCell'])) (by omega) (by omega) (.s <| .z) .more fun v61 R62 ho63 => ⟨fun _ _ => (fun _ h => h.drop (.cons _ <| List.sublist_append_of_sublist_right <| .cons_cons _ <| List.nil_sublist _)), ?_⟩)
       have ho3 := ho63.snoc (x := (j : Int) + 1) rfl rfl
       refine WX_freezeR (σ := ⟨_, _⟩) (by rfl) ho3 (.s <| .z) .more fun F64 hF65 hz66 => ?_
       replace hr := hr.mono hF65
       replace hb := hb.mono hF65
       replace hqa := hqa.mono hF65
       replace hle0 := Heap.le_trans hle0 hF65
       have hn2 := ho3.sl (fun _ => rfl) hz66 (by simp only [List.length_append, List.length_singleton]; omega)
       refine Dr 9 rfl (by kernel_rfl) rfl (B6 bd_89 A1 (.cons (Az rfl <| Ar rfl <| Al rfl <| Ae) (.cons (Az rfl <| Ar rfl <| Ae) (.cons (Ae) .nil))) (ih hr hn2 (by simp only [List.length_append, List.length_singleton]; omega)) fun v67 F68 hr69 hF70 => ⟨fun _ _ _ h => (h.drop (.cons _ <| .cons_cons _ <| List.nil_sublist _)).weak (Heap.le_trans hF65 hF70) hleS, ?_⟩)
       replace hr := hr.mono hF70
       replace hb := hb.mono hF70
       replace hqa := hqa.mono hF70
       replace hle0 := Heap.le_trans hle0 hF70
       obtain ⟨zs, hzs, hza, hzm⟩ := hr69
       have hzl : zs.length ≤ 243 := by rw [Cv hzm]; exact fill_len5 (by omega)
       refine Dr 10 rfl (by kernel_rfl) rfl (B4 Ce el_26 (A7 rfl <| Al rfl <| Ae) ho (Ae) (hzs.srcM (fun _ => rfl) hza.one) (by omega) (by omega) (.s <| .s <| .z) .last fun v71 R72 ho73 => ⟨fun _ _ => (fun _ h => (h.drop (.cons _ <| .cons_cons _ <| List.nil_sublist _)).weak (Heap.le_trans hF65 hF70) hleS), ?_⟩)
       have ho6 := ho73
       refine A2 11 rfl (by kernel_rfl) (by kernel_rfl) (by kernel_rfl) (by kernel_rfl) rfl rfl (fun _ h => (h.drop (.cons _ <| .cons_cons _ <| List.nil_sublist _)).weak (Heap.le_trans hF65 hF70) hleS) (fun _ _ _ h => h) (Ac (Ae)) ?_
       refine Cr (by kernel_rfl) ?_ _
       refine Bb <| Ab <| Cz (fun _ _ h => h.drop (.cons _ <| .cons_cons _ <| .refl _)) ?_
       refine Ai fun ds => Aa rfl (Ag (A5 rfl <| Az rfl <| Al rfl <| As rfl hs9)) ?_
       refine Aa rfl (Bp (Ae) Ad rfl (by omega) (by omega)) ?_
       refine Aa rfl (Ac (Ae)) ?_
       refine Ah <| Ab ⟨_, m - 1, Off.eq (Cq rfl <| Di rfl <| Ba), by omega, ?_⟩
       exact ⟨_, hle0, hr, hb, j + 1, by omega, ((Ae)).trans (congrArg (Value.int .i64) (by omega)), _, _, qs ++ zs, (Ar rfl <| Al rfl <| Ae), by rw [flat_sndZ, List.length_append]; exact ho6, hqa.add hza, by rw [List.map_append, hqs, hzm, filTo_yes hlt hfit], rfl⟩
      ·
       refine WXop_x rfl rfl (B2 Be Db rfl (.cons (Al rfl <| Ae) .nil) rfl rfl (by decide) (by simp [Value.oneCell']) fun b74 hb74 nb74 => ⟨fun _ _ => (fun _ h => h.drop (.cons _ <| .cons _ <| .cons_cons _ <| List.nil_sublist _)), ?_⟩)
       refine Dr 5 rfl (by kernel_rfl) rfl (B4 Be el_3 (Al rfl <| Ae) (Eg rfl) (Ar rfl <| Al rfl <| Ae) hb.srcInt (by omega) (by omega) (.s <| .z) .box fun v75 R76 ho77 => ⟨fun _ _ => (fun _ h => h.drop (.cons _ <| List.sublist_append_of_sublist_right <| .cons_cons _ <| List.nil_sublist _)), ?_⟩)
       have ho2 : Own 3 1 v75 b.length (b.flatMap intE) R76 := by simpa using ho77
       refine Dr 8 rfl (by kernel_rfl) rfl (B4 Be el_3 (Ae) ho2 (Al rfl <| Ae) (C6 (s := 1) 0 rfl rfl (by simp [Value.oneCell'])) (by omega) (by omega) (.s <| .z) .more fun v78 R79 ho80 => ⟨fun _ _ => (fun _ h => h.drop (.cons _ <| List.sublist_append_of_sublist_right <| .cons_cons _ <| List.nil_sublist _)), ?_⟩)
       have ho3 := ho80.snoc (x := (j : Int) + 1) rfl rfl
       refine WX_freezeR (σ := ⟨_, _⟩) (by rfl) ho3 (.s <| .z) .more fun F81 hF82 hz83 => ?_
       replace hr := hr.mono hF82
       replace hb := hb.mono hF82
       replace hqa := hqa.mono hF82
       replace hle0 := Heap.le_trans hle0 hF82
       have hn2 := ho3.sl (fun _ => rfl) hz83 (by simp only [List.length_append, List.length_singleton]; omega)
       refine Dr 9 rfl (by kernel_rfl) rfl (B6 bd_89 A1 (.cons (Az rfl <| Ar rfl <| Al rfl <| Ae) (.cons (Az rfl <| Ar rfl <| Ae) (.cons (Ae) .nil))) (ih hr hn2 (by simp only [List.length_append, List.length_singleton]; omega)) fun v84 F85 hr86 hF87 => ⟨fun _ _ _ h => (h.drop (.cons _ <| .cons_cons _ <| List.nil_sublist _)).weak (Heap.le_trans hF82 hF87) hleS, ?_⟩)
       replace hr := hr.mono hF87
       replace hb := hb.mono hF87
       replace hqa := hqa.mono hF87
       replace hle0 := Heap.le_trans hle0 hF87
       obtain ⟨zs, hzs, hza, hzm⟩ := hr86
       have hzl : zs.length ≤ 243 := by rw [Cv hzm]; exact fill_len5 (by omega)
       refine Dr 10 rfl (by kernel_rfl) rfl (B4 Ce el_26 (A7 rfl <| Al rfl <| Ae) ho (Ae) (hzs.srcM (fun _ => rfl) hza.one) (by omega) (by omega) (.s <| .s <| .z) .last fun v88 R89 ho90 => ⟨fun _ _ => (fun _ h => (h.drop (.cons _ <| .cons_cons _ <| List.nil_sublist _)).weak (Heap.le_trans hF82 hF87) hleS), ?_⟩)
       have ho6 := ho90
       refine A2 11 rfl (by kernel_rfl) (by kernel_rfl) (by kernel_rfl) (by kernel_rfl) rfl rfl (fun _ h => (h.drop (.cons _ <| .cons_cons _ <| List.nil_sublist _)).weak (Heap.le_trans hF82 hF87) hleS) (fun _ _ _ h => h) (Ac (Ae)) ?_
       refine Cr (by kernel_rfl) ?_ _
       refine Bb <| Ab <| Cz (fun _ _ h => h.drop (.cons _ <| .cons_cons _ <| .refl _)) ?_
       refine Ai fun ds => Aa rfl (Ag (A5 rfl <| Az rfl <| Al rfl <| As rfl hs9)) ?_
       refine Aa rfl (Bp (Ae) Ad rfl (by omega) (by omega)) ?_
       refine Aa rfl (Ac (Ae)) ?_
       refine Ah <| Ab ⟨_, m - 1, Off.eq (Cq rfl <| Di rfl <| Ba), by omega, ?_⟩
       exact ⟨_, hle0, hr, hb, j + 1, by omega, ((Ae)).trans (congrArg (Value.int .i64) (by omega)), _, _, qs ++ zs, (Ar rfl <| Al rfl <| Ae), by rw [flat_sndZ, List.length_append]; exact ho6, hqa.add hza, by rw [List.map_append, hqs, hzm, filTo_yes hlt hfit], rfl⟩
     ·
      refine WXop_x rfl rfl (B2 Be Db rfl (.cons (Ae) .nil) rfl rfl (by decide) (by simp [Value.oneCell']) fun b91 hb91 nb91 => ⟨fun _ _ => (fun _ h => h.drop (.cons _ <| .cons_cons _ <| List.nil_sublist _)), ?_⟩)
      refine Dr 3 rfl (by kernel_rfl) rfl (x_build0 Be fun b92 hb92 nb92 => ⟨fun _ _ => (fun _ h => h.drop (.cons _ <| .cons _ <| .cons_cons _ <| List.nil_sublist _)), ?_⟩)
      refine Dr 5 rfl (by kernel_rfl) rfl (B4 Be el_3 (Ae) (Eg rfl) (Ar rfl <| Al rfl <| Ae) hb.srcInt (by omega) (by omega) (.z) .box fun v93 R94 ho95 => ⟨fun _ _ => (fun _ h => h.drop (List.sublist_append_of_sublist_right <| .cons _ <| .cons_cons _ <| List.nil_sublist _)), ?_⟩)
      have ho2 : Own 3 1 v93 b.length (b.flatMap intE) R94 := by simpa using ho95
      refine Dr 8 rfl (by kernel_rfl) rfl (B4 Be el_3 (Ae) ho2 (Ar rfl <| Ae) (src_boxM (s := 1) (List.mem_append_right _ <| .head _) rfl (by simp [Value.oneCell'])) (by omega) (by omega) (.z) .more fun v96 R97 ho98 => ⟨fun _ _ => (fun _ h => h.drop (List.sublist_append_of_sublist_right <| .cons _ <| .cons_cons _ <| List.nil_sublist _)), ?_⟩)
      have ho3 := ho98.snoc (x := (j : Int) + 1) rfl rfl
      refine WX_freezeR (σ := ⟨_, _⟩) (by rfl) ho3 (.z) .more fun F99 hF100 hz101 => ?_
      replace hr := hr.mono hF100
      replace hb := hb.mono hF100
      replace hqa := hqa.mono hF100
      replace hle0 := Heap.le_trans hle0 hF100
      have hn2 := ho3.sl (fun _ => rfl) hz101 (by simp only [List.length_append, List.length_singleton]; omega)
      refine Dr 9 rfl (by kernel_rfl) rfl (B6 bd_89 A1 (.cons (Az rfl <| Ar rfl <| Al rfl <| Ae) (.cons (Az rfl <| Ar rfl <| Ae) (.cons (Ae) .nil))) (ih hr hn2 (by simp only [List.length_append, List.length_singleton]; omega)) fun v102 F103 hr104 hF105 => ⟨fun _ _ _ h => (h.drop (.cons _ <| .cons_cons _ <| List.nil_sublist _)).weak (Heap.le_trans hF100 hF105) hleS, ?_⟩)
      replace hr := hr.mono hF105
      replace hb := hb.mono hF105
      replace hqa := hqa.mono hF105
      replace hle0 := Heap.le_trans hle0 hF105
      obtain ⟨zs, hzs, hza, hzm⟩ := hr104
      have hzl : zs.length ≤ 243 := by rw [Cv hzm]; exact fill_len5 (by omega)
      refine Dr 10 rfl (by kernel_rfl) rfl (B4 Ce el_26 (A7 rfl <| Al rfl <| Ae) ho (Ae) (hzs.srcM (fun _ => rfl) hza.one) (by omega) (by omega) (.s <| .s <| .z) .last fun v106 R107 ho108 => ⟨fun _ _ => (fun _ h => (h.drop (.cons _ <| .cons_cons _ <| List.nil_sublist _)).weak (Heap.le_trans hF100 hF105) hleS), ?_⟩)
      have ho6 := ho108
      refine A2 11 rfl (by kernel_rfl) (by kernel_rfl) (by kernel_rfl) (by kernel_rfl) rfl rfl (fun _ h => (h.drop (.cons _ <| .cons_cons _ <| List.nil_sublist _)).weak (Heap.le_trans hF100 hF105) hleS) (fun _ _ _ h => h) (Ac (Ae)) ?_
      refine Cr (by kernel_rfl) ?_ _
      refine Bb <| Ab <| Cz (fun _ _ h => h.drop (.cons _ <| .cons_cons _ <| .refl _)) ?_
      refine Ai fun ds => Aa rfl (Ag (A5 rfl <| Az rfl <| Al rfl <| As rfl hs9)) ?_
      refine Aa rfl (Bp (Ae) Ad rfl (by omega) (by omega)) ?_
      refine Aa rfl (Ac (Ae)) ?_
      refine Ah <| Ab ⟨_, m - 1, Off.eq (Cq rfl <| Di rfl <| Ba), by omega, ?_⟩
      exact ⟨_, hle0, hr, hb, j + 1, by omega, ((Ae)).trans (congrArg (Value.int .i64) (by omega)), _, _, qs ++ zs, (Ar rfl <| Al rfl <| Ae), by rw [flat_sndZ, List.length_append]; exact ho6, hqa.add hza, by rw [List.map_append, hqs, hzm, filTo_yes hlt hfit], rfl⟩
    ·
     refine Am (Ae) (by rw [er]; exact decide_eq_false heq) ?_
     refine Au <| Bb <| Ab <| Ai fun ds => Aa rfl (Ag (A7 rfl <| Al rfl <| As rfl hs9)) ?_
     refine Aa rfl (Bp (Ae) Ad rfl (by omega) (by omega)) ?_
     refine Aa rfl (Ac (Ae)) ?_
     refine Ah <| Ab ⟨_, m - 1, Off.eq (Di rfl <| Dy rfl <| Ba), by omega, ?_⟩
     exact ⟨_, hle0, hr, hb, j + 1, by omega, ((Ae)).trans (congrArg (Value.int .i64) (by omega)), _, _, qs, (A7 rfl <| Az rfl <| As rfl hs7), ho, hqa, by rw [hqs, filTo_no hlt (fun h => heq ((fitR_known hz).1 h))], rfl⟩
  ·
   refine Af <| Af <| Ai fun ds => Aa rfl (Ag (As rfl hs9)) ?_
   refine Aa rfl (D0 (Ae) Ad) ?_
   refine Ah <| Ab <| Am (Ae) (decide_eq_false (by omega)) ?_
   obtain rfl : j = 3 := by omega
   have hqb : qs.length ≤ 729 := by rw [Cv hqs]; exact filTo_len5 (by omega) (by omega)
   refine Cn (σ := ⟨_, _⟩) (by rfl) ho (.s <| .z) .last fun F109 hF110 hz111 => ?_
   replace hqa := hqa.mono hF110
   have hsp := ho.sl (fun _ => rfl) hz111 (by omega)
   refine Bn ?_
   refine Bd <| Bd <| Bf <| Ab <| Af <| Ai fun ds => Aa rfl (Ag (Ar rfl <| As rfl hs7)) ?_
   refine Aa rfl (Ac (Ae)) ?_
   refine Ah <| Ab <| A4 <| Ay rfl (.tmp (Ae) .nil) ?_
   exact ⟨qs, hsp, hqa, by rw [hqs]; exact filTo_end⟩
theorem refFilled_ok {vp ve : Value} {ps : List (Value × Edn)} {s : Stm} (hv : ValidT s) {p : Nat} (hp : p < s.places.length) : ∀ (r : Nat) {F : Heap} {v : Value} {b : List Int}, StmR F vp ve ps s → Ints F v b → b.length + r = s.editions.length → Ok Try.prog 89 [.agg #[vp, ve], .int .i64 (p : Int), v].toArray F fun u F' => LstZ F' u (fillF s p r b)
 | 0, _, _, _, hr, hb, h => filled_zero hr hv hp hb (by omega)
 | r + 1, _, _, _, hr, hb, h => filled_step hr hv hp hb (by omega) (fun h1 h2 h3 => refFilled_ok hv hp r h1 h2 h3)
set_option maxRecDepth 100000 in
theorem refCounted_ok {F : Heap} {vp ve : Value} {ps : List (Value × Edn)} {s : Stm} (hr : StmR F vp ve ps s) (hv : ValidT s) {v : Value} {l : List Int} (hl : Ints F v l) (hll : l.length = s.editions.length) (ht : IsTree l) {p : Nat} (hp : p < s.places.length) {w : Value} {xs : List Int} (hx : Ints F w xs) (hxl : xs.length = l.length) : Ok Try.prog 90 [.agg #[vp, ve], v, .int .i64 (p : Int), w].toArray F fun u _ => u = .int .i64 (countL s l p xs) := by
 refine Ok.intro Try.func90 rfl Try.ntmps90 rfl fun w0 => ?_
 have hL := hl.plain.lt
 have hlen := hr.len
 have hL2 := hr.places.plain.lt
 have hne := hv.ne
 refine Af <| Ai fun ds => Bk rfl (B1 (Aj rfl) rfl fun b1 hb1 nb1 => ?_)
 refine Aa rfl (Ac Ad) ?_
 refine Ah <| Ab <| Af <| Ai fun ds => Aa rfl (Ac Ad) ?_
 refine Ah <| Ab <| Af <| Af <| Ai fun ds => Aa rfl (Ac Ad) ?_
 refine Ah <| Ab <| A0 <| Bs [8, 9, 10, 11, 12, 13, 14, 15, 16, 17, 18, 19, 20, 21, 22, 23, 24, 25, 26, 27, 28, 29, 30, 31, 32, 33, 34, 35, 36, 37, 38, 39, 40, 41, 42, 43, 44, 45, 46, 47, 48, 49, 50, 51] (fun m e σ => ∃ i : Nat, m + i = l.length ∧ e 10 = .int .i64 (i : Int) ∧ e 9 = .int .i64 (sumN i (chg l (upN xs))) ∧ (∀ j, j < i → possAt s l p (upN xs) j = true) ∧ σ = ⟨F, [(b1, bx 25 [vp, ve])]⟩) (l.length) ?_ ?_
 · exact ⟨0, by omega, (Ae), (Al rfl <| Ae), fun j h => absurd h (by omega), rfl⟩
 ·
  rintro m e _ ⟨i, hm, hs10, hs9, hno, rfl⟩
  by_cases hlt : i < l.length
  ·
   have hcb := sum_chg_bound (l := l) (g := upN xs) (k := i)
   refine Af <| Af <| Ai fun ds => Aa rfl (Ag (As rfl hs10)) ?_
   refine Aa rfl (Ag (Al rfl <| Ak rfl <| Az rfl <| Aj rfl)) ?_
   refine Aa rfl (Bh Be (Ae) hl.plain) ?_
   refine Aa rfl (Br (Ar rfl <| Ae) (Ae)) ?_
   refine Ah <| Ab <| Aq (Ae) (by first | rfl | exact decide_eq_true (by omega)) ?_
   by_cases hu : upN l i = -1
   ·
    refine Au <| Ab <| Af <| A0 <| Af <| Af <| Ai fun ds => Aa rfl (Ag (Az rfl <| Ak rfl <| Az rfl <| Aj rfl)) ?_
    refine Aa rfl (Ag (Az rfl <| Al rfl <| As rfl hs10)) ?_
    refine Aa rfl (A9 (k := i) Be (Al rfl <| Ae) hl.plain (Ae) rfl hlt) ?_
    refine Aa rfl (Ap Bl (Ae) (hl.cell1 hlt rfl)) ?_
    refine Aa rfl (Bx (Ae) Ad) ?_
    refine Ah <| Ab <| Aq (Ae) (by rw [Dd hlt]; exact decide_eq_true hu) ?_
    refine Bn ?_
    refine Bd (Bf ?_)
    refine Ab <| Ai fun ds => Aa rfl (Ag (A7 rfl <| Al rfl <| As rfl hs10)) ?_
    refine Aa rfl (Bp (Ae) Ad rfl (by omega) (by omega)) ?_
    refine Aa rfl (Ac (Ae)) ?_
    refine Ah <| Ab ⟨_, m - 1, Off.eq (Di rfl <| Dy rfl <| Ba), by omega, ?_⟩
    exact ⟨i + 1, by omega, (Ae), ((A7 rfl <| Az rfl <| As rfl hs9)).trans (congrArg (Value.int .i64) (show _ = sumN i _ + _ by rw [chg_root hu]; first | done | omega)), fun j hj => by rcases Nat.lt_succ_iff_lt_or_eq.1 hj with hj | rfl; exact hno j hj; exact poss_root hu, rfl⟩
   ·
    obtain ⟨k, hk, hkl⟩ := ht.in_.nat hlt hu
    have hlk : l[i] = (k : Int) := by rw [Dd hlt, hk]
    have hkx : k < xs.length := by omega
    have hix : i < xs.length := by omega
    have ex := Dd hkx
    have ey := Dd hix
    refine Au <| Ab <| Af <| A0 <| Af <| Af <| Ai fun ds => Aa rfl (Ag (Az rfl <| Ak rfl <| Az rfl <| Aj rfl)) ?_
    refine Aa rfl (Ag (Az rfl <| Al rfl <| As rfl hs10)) ?_
    refine Aa rfl (A9 (k := i) Be (Al rfl <| Ae) hl.plain (Ae) rfl hlt) ?_
    refine Aa rfl (Ap Bl (Ae) (hl.cell1 hlt rfl)) ?_
    refine Aa rfl (Bx (Ae) Ad) ?_
    refine Ah <| Ab <| Am (Ae) (by rw [Dd hlt]; exact decide_eq_false hu) ?_
    by_cases hk1 : (s.pl p).kind = 1
    ·
     refine Au <| Ab <| Af <| Cp (.inl rfl) (fun _ _ h => h) (by kernel_rfl) (by kernel_rfl) fun ds => ?_
     refine Bi rfl (Ag (A7 rfl <| Al rfl <| Ak rfl <| Az rfl <| Aj rfl)) ?_
     refine Bi rfl (Ag (A7 rfl <| Ar rfl <| Ak rfl <| Az rfl <| Aj rfl)) ?_
     refine Bi rfl (Ag (A7 rfl <| Ar rfl <| Al rfl <| As rfl hs10)) ?_
     refine Bi rfl (A9 (k := i) Be (Al rfl <| Ae) hl.plain (Ae) rfl hlt) ?_
     refine Bi rfl (Ap Bl (Ae) (hl.cell1 hlt rfl)) ?_
     refine Bi rfl (A9 (k := k) Be (Az rfl <| Ae) hx.plain (Ae) hlk hkx) ?_
     refine Bi rfl (Ap Bl (Ae) (hx.cell1 hkx rfl)) ?_
     refine Bi rfl (Ag (A5 rfl <| Ak rfl <| Az rfl <| Aj rfl)) ?_
     refine Bi rfl (Ag (A5 rfl <| Al rfl <| As rfl hs10)) ?_
     refine Bi rfl (A9 (k := i) Be (Al rfl <| Ae) hx.plain (Ae) rfl hix) ?_
     refine Bi rfl (Ap Bl (Ae) (hx.cell1 hix rfl)) ?_
     refine Bi rfl (Ac (Az rfl <| Ae)) ?_
     refine Bi rfl (Ac (Al rfl <| Ae)) ?_
     refine C3 ?_
     refine Ab <| Af <| Af <| Ai fun ds => Aa rfl (Ao Co (A5 rfl <| Az rfl <| Ar rfl <| Ak rfl <| Ar rfl <| Al rfl <| Ae)) ?_
     refine Aa rfl (Ap C2 (Ae) (Cell.own 0 rfl rfl)) ?_
     refine Aa rfl (Ag (A5 rfl <| A7 rfl <| Ak rfl <| Az rfl <| Aj rfl)) ?_
     refine Aa rfl (A9 (k := p) Da (Al rfl <| Ae) hr.places.plain (Ae) rfl hp) ?_
     refine Aa rfl (Bt fd_70_1 (Ae)) ?_
     refine Aa rfl (Ap Bl (Ae) (hr.places.cell hp rfl)) ?_
     refine Aa rfl (Bx (Ae) Ad) ?_
     refine Aa rfl (Ag (Ae)) ?_
     refine At rfl rfl (Ae) (by rw [pl_at hp]; exact decide_eq_true hk1) ?_
     refine Aa rfl (Ag (A7 rfl <| Ae)) ?_
     refine At rfl rfl (Al rfl <| Ae) (by rw [pl_at hp]; exact decide_eq_true hk1) ?_
     refine Aa rfl (Ag (A7 rfl <| Ar rfl <| Ae)) ?_
     refine At rfl rfl (Ar rfl <| Ae) (by rw [pl_at hp]; exact decide_eq_true hk1) ?_
     refine Aa rfl (Br (Al rfl <| Ae) (Ae)) ?_
     refine Aa rfl (A6 (Ar rfl <| Al rfl <| Ae) (by rw [pl_at hp]; exact decide_eq_true hk1) (Ae)) ?_
     refine Ah <| Ab ?_
     by_cases hlf : upN xs i < upN xs k
     ·
      refine Aq (Ae) (by rw [ex, ey]; exact decide_eq_true hlf) ?_
      refine Af <| Ai fun ds => Aa rfl (Ac Ad) ?_
      refine Ah <| Ab <| A4 <| Bc (Bm (Bc (Bc (Bm (Bc ?_)))))
      refine Ay rfl (.tmp (Ae) .nil) ?_
      show _ = _
      rw [possB_no hlt (poss_lt hk (free_no hk1) hlf)]; rfl
     ·
      refine Am (Ae) (by rw [ex, ey]; exact decide_eq_false hlf) ?_
      by_cases hne : upN xs k = upN xs i
      ·
       refine Au <| Ab <| Af <| Ai fun ds => Aa rfl (Ag (A7 rfl <| Az rfl <| Al rfl <| Ae)) ?_
       refine Aa rfl (Ag (A7 rfl <| Az rfl <| Al rfl <| Ae)) ?_
       refine Aa rfl (By (Al rfl <| Ae) (Ae)) ?_
       refine Ah <| Ab <| Am (Ae) (by rw [ex, ey]; exact decide_eq_false (fun h => h hne)) ?_
       refine Au <| Bb <| Ab <| Ai fun ds => Aa rfl (Ag (Bq rfl <| Az rfl <| Al rfl <| As rfl hs10)) ?_
       refine Aa rfl (Bp (Ae) Ad rfl (by omega) (by omega)) ?_
       refine Aa rfl (Ac (Ae)) ?_
       refine Ah <| Ab ⟨_, m - 1, Off.eq (ou32 rfl <| Di rfl <| Ba), by omega, ?_⟩
       exact ⟨i + 1, by omega, (Ae), ((Bq rfl <| A7 rfl <| As rfl hs9)).trans (congrArg (Value.int .i64) (show _ = sumN i _ + _ by rw [chg_same hk hne]; first | done | omega)), fun j hj => by rcases Nat.lt_succ_iff_lt_or_eq.1 hj with hj | rfl; exact hno j hj; exact poss_ge hk hlf, rfl⟩
      ·
       refine Au <| Ab <| Af <| Ai fun ds => Aa rfl (Ag (A7 rfl <| Az rfl <| Al rfl <| Ae)) ?_
       refine Aa rfl (Ag (A7 rfl <| Az rfl <| Al rfl <| Ae)) ?_
       refine Aa rfl (By (Al rfl <| Ae) (Ae)) ?_
       refine Ah <| Ab <| Aq (Ae) (by rw [ex, ey]; exact decide_eq_true hne) ?_
       refine Ai fun ds => Aa rfl (Ag (Bq rfl <| Az rfl <| Al rfl <| As rfl hs9)) ?_
       refine Aa rfl (Bp (Ae) Ad rfl (by omega) (by omega)) ?_
       refine Aa rfl (Ac (Ae)) ?_
       refine Ah <| Bb <| Ab <| Ai fun ds => Aa rfl (Ag (Bq rfl <| A7 rfl <| As rfl hs10)) ?_
       refine Aa rfl (Bp (Ae) Ad rfl (by omega) (by omega)) ?_
       refine Aa rfl (Ac (Ae)) ?_
       refine Ah <| Ab ⟨_, m - 1, Off.eq (ou32 rfl <| Di rfl <| Eb rfl <| Df rfl <| Ba), by omega, ?_⟩
       exact ⟨i + 1, by omega, (Ae), ((Ar rfl <| Al rfl <| Ae)).trans (congrArg (Value.int .i64) (show _ = sumN i _ + _ by rw [chg_not hk hne]; first | done | omega)), fun j hj => by rcases Nat.lt_succ_iff_lt_or_eq.1 hj with hj | rfl; exact hno j hj; exact poss_ge hk hlf, rfl⟩
    ·
     refine Au <| Ab <| Af <| Cp (.inl rfl) (fun _ _ h => h) (by kernel_rfl) (by kernel_rfl) fun ds => ?_
     refine Bi rfl (Ag (A7 rfl <| Al rfl <| Ak rfl <| Az rfl <| Aj rfl)) ?_
     refine Bi rfl (Ag (A7 rfl <| Ar rfl <| Ak rfl <| Az rfl <| Aj rfl)) ?_
     refine Bi rfl (Ag (A7 rfl <| Ar rfl <| Al rfl <| As rfl hs10)) ?_
     refine Bi rfl (A9 (k := i) Be (Al rfl <| Ae) hl.plain (Ae) rfl hlt) ?_
     refine Bi rfl (Ap Bl (Ae) (hl.cell1 hlt rfl)) ?_
     refine Bi rfl (A9 (k := k) Be (Az rfl <| Ae) hx.plain (Ae) hlk hkx) ?_
     refine Bi rfl (Ap Bl (Ae) (hx.cell1 hkx rfl)) ?_
     refine Bi rfl (Ag (A5 rfl <| Ak rfl <| Az rfl <| Aj rfl)) ?_
     refine Bi rfl (Ag (A5 rfl <| Al rfl <| As rfl hs10)) ?_
     refine Bi rfl (A9 (k := i) Be (Al rfl <| Ae) hx.plain (Ae) rfl hix) ?_
     refine Bi rfl (Ap Bl (Ae) (hx.cell1 hix rfl)) ?_
     refine Bi rfl (Ac (Az rfl <| Ae)) ?_
     refine Bi rfl (Ac (Al rfl <| Ae)) ?_
     refine C3 ?_
     refine Ab <| Af <| Af <| Ai fun ds => Aa rfl (Ao Co (A5 rfl <| Az rfl <| Ar rfl <| Ak rfl <| Ar rfl <| Al rfl <| Ae)) ?_
     refine Aa rfl (Ap C2 (Ae) (Cell.own 0 rfl rfl)) ?_
     refine Aa rfl (Ag (A5 rfl <| A7 rfl <| Ak rfl <| Az rfl <| Aj rfl)) ?_
     refine Aa rfl (A9 (k := p) Da (Al rfl <| Ae) hr.places.plain (Ae) rfl hp) ?_
     refine Aa rfl (Bt fd_70_1 (Ae)) ?_
     refine Aa rfl (Ap Bl (Ae) (hr.places.cell hp rfl)) ?_
     refine Aa rfl (Bx (Ae) Ad) ?_
     refine Aa rfl (Ag (Ae)) ?_
     refine Aw rfl rfl (Ae) (.inl (congrArg Value.bool (by rw [pl_at hp]; exact decide_eq_false hk1))) rfl ?_
     refine Aw rfl rfl (Al rfl <| Ae) (.inl (congrArg Value.bool (by rw [pl_at hp]; exact decide_eq_false hk1))) rfl ?_
     refine Aw rfl rfl (Ar rfl <| Ae) (.inl (congrArg Value.bool (by rw [pl_at hp]; exact decide_eq_false hk1))) rfl ?_
     refine Aa rfl (Bg (Ar rfl <| Al rfl <| Ae) (by rw [pl_at hp]; exact decide_eq_false hk1) Ad) ?_
     refine Ah <| Ab <| Am (Ae) rfl ?_
     by_cases hne : upN xs k = upN xs i
     ·
      refine Au <| Ab <| Af <| Ai fun ds => Aa rfl (Ag (A7 rfl <| Az rfl <| Al rfl <| Ae)) ?_
      refine Aa rfl (Ag (A7 rfl <| Az rfl <| Al rfl <| Ae)) ?_
      refine Aa rfl (By (Al rfl <| Ae) (Ae)) ?_
      refine Ah <| Ab <| Am (Ae) (by rw [ex, ey]; exact decide_eq_false (fun h => h hne)) ?_
      refine Au <| Bb <| Ab <| Ai fun ds => Aa rfl (Ag (Bq rfl <| Az rfl <| Al rfl <| As rfl hs10)) ?_
      refine Aa rfl (Bp (Ae) Ad rfl (by omega) (by omega)) ?_
      refine Aa rfl (Ac (Ae)) ?_
      refine Ah <| Ab ⟨_, m - 1, Off.eq (ou32 rfl <| Di rfl <| Ba), by omega, ?_⟩
      exact ⟨i + 1, by omega, (Ae), ((Bq rfl <| A7 rfl <| As rfl hs9)).trans (congrArg (Value.int .i64) (show _ = sumN i _ + _ by rw [chg_same hk hne]; first | done | omega)), fun j hj => by rcases Nat.lt_succ_iff_lt_or_eq.1 hj with hj | rfl; exact hno j hj; exact poss_free (free_yes hv hp hk1), rfl⟩
     ·
      refine Au <| Ab <| Af <| Ai fun ds => Aa rfl (Ag (A7 rfl <| Az rfl <| Al rfl <| Ae)) ?_
      refine Aa rfl (Ag (A7 rfl <| Az rfl <| Al rfl <| Ae)) ?_
      refine Aa rfl (By (Al rfl <| Ae) (Ae)) ?_
      refine Ah <| Ab <| Aq (Ae) (by rw [ex, ey]; exact decide_eq_true hne) ?_
      refine Ai fun ds => Aa rfl (Ag (Bq rfl <| Az rfl <| Al rfl <| As rfl hs9)) ?_
      refine Aa rfl (Bp (Ae) Ad rfl (by omega) (by omega)) ?_
      refine Aa rfl (Ac (Ae)) ?_
      refine Ah <| Bb <| Ab <| Ai fun ds => Aa rfl (Ag (Bq rfl <| A7 rfl <| As rfl hs10)) ?_
      refine Aa rfl (Bp (Ae) Ad rfl (by omega) (by omega)) ?_
      refine Aa rfl (Ac (Ae)) ?_
      refine Ah <| Ab ⟨_, m - 1, Off.eq (ou32 rfl <| Di rfl <| Eb rfl <| Df rfl <| Ba), by omega, ?_⟩
      exact ⟨i + 1, by omega, (Ae), ((Ar rfl <| Al rfl <| Ae)).trans (congrArg (Value.int .i64) (show _ = sumN i _ + _ by rw [chg_not hk hne]; first | done | omega)), fun j hj => by rcases Nat.lt_succ_iff_lt_or_eq.1 hj with hj | rfl; exact hno j hj; exact poss_free (free_yes hv hp hk1), rfl⟩
  ·
   refine Af <| Af <| Ai fun ds => Aa rfl (Ag (As rfl hs10)) ?_
   refine Aa rfl (Ag (Al rfl <| Ak rfl <| Az rfl <| Aj rfl)) ?_
   refine Aa rfl (Bh Be (Ae) hl.plain) ?_
   refine Aa rfl (Br (Ar rfl <| Ae) (Ae)) ?_
   refine Ah <| Ab <| Am (Ae) (by first | rfl | exact decide_eq_false (by omega)) ?_
   obtain rfl : i = l.length := by omega
   refine Bn ?_
   refine Bd <| Bd <| Bf <| Ab <| Af <| Ai fun ds => Aa rfl (Ag (Az rfl <| As rfl hs9)) ?_
   refine Aa rfl (Ac (Ae)) ?_
   refine Ah <| Ab <| A4 <| Ay rfl (.tmp (Ae) .nil) ?_
   show _ = _
   rw [possB_yes hno]; rfl
set_option maxRecDepth 100000 in
theorem refLeast_ok {F : Heap} {vp ve : Value} {ps : List (Value × Edn)} {s : Stm} (hr : StmR F vp ve ps s) (hv : ValidT s) {v : Value} {l : List Int} (hl : Ints F v l) (hll : l.length = s.editions.length) (ht : IsTree l) {p : Nat} (hp : p < s.places.length) : Ok Try.prog 88 [.agg #[vp, ve], v, .int .i64 (p : Int)].toArray F fun u _ => u = .int .i64 (leastL s l p) := by
 have hle0 : F.le F := Heap.le_refl _
 refine Ok.intro Try.func88 rfl Try.ntmps88 rfl fun w0 => ?_
 have hL := hl.plain.lt
 have hlen := hr.len
 have hne := hv.ne
 refine Af <| Ai fun ds => Bk rfl (B1 (Aj rfl) rfl fun b1 hb1 nb1 => ?_)
 refine Aa rfl (Ac Ad) ?_
 refine Ah <| Ab <| Af <| Ai fun ds => Aa rfl (Ac Ad) ?_
 refine Ah <| Ab <| Af <| Ai fun ds => Aa rfl (A8 Bw (Ar rfl <| Ae) rfl rfl (A3 0 rfl)) ?_
 refine Aa rfl (Ag (Az rfl <| Aj rfl)) ?_
 refine Bk rfl (B6 bd_89 A1 (.cons (Al rfl <| Ae) (.cons (Ae) (.cons Ad .nil))) (refFilled_ok hv hp s.editions.length hr Sl.nil (by simp)) fun v2 F3 hr4 hF5 => ?_)
 replace hr := hr.mono hF5
 replace hl := hl.mono hF5
 obtain ⟨qs, hqs, hqa, hqm⟩ := hr4
 replace hqm : qs.map (·.2) = allFill s p := hqm
 have hql : qs.length ≤ 243 := by rw [Cv hqm]; exact fill_len5 (by have := hv.ne; omega)
 refine Aa rfl (Ac (Ae)) ?_
 refine Ah <| Ab <| Af <| Af <| Ai fun ds => Aa rfl (Ac Ad) ?_
 refine Ah <| Ab <| A0 <| Bs [7, 9, 13, 14, 15, 16, 17, 18, 19, 20, 21, 22, 23, 24, 25, 26, 27, 28] (fun m e σ => ∃ i : Nat, m + i = qs.length ∧ e 9 = .int .i64 (i : Int) ∧ e 7 = .int .i64 (leastTo s l p i) ∧ σ = ⟨F3, [(b1, bx 25 [vp, ve])]⟩) (qs.length) ?_ ?_
 · exact ⟨0, by omega, (Ae), (Az rfl <| Al rfl <| Ae), rfl⟩
 ·
  rintro m e _ ⟨i, hm, hs9, hs7, rfl⟩
  by_cases hlt : i < qs.length
  ·
   have hqi : Ints _ _ _ := hqa _ (List.getElem_mem hlt)
   have hil : i < (allFill s p).length := by rw [← Cv hqm]; exact hlt
   have hqe : qs[i].2 = (allFill s p)[i] := by simp [← hqm]
   have hxl : qs[i].2.length = l.length := by rw [hqe]; exact ((allFill_mem hll).1 (List.getElem_mem hil)).1
   refine Af <| Af <| Ai fun ds => Aa rfl (Ag (As rfl hs9)) ?_
   refine Aa rfl (Ag (Al rfl <| Ak rfl <| Al rfl <| Ae)) ?_
   refine Aa rfl (Bh Ce (Ae) hqs.plain) ?_
   refine Aa rfl (Br (Ar rfl <| Ae) (Ae)) ?_
   refine Ah <| Ab <| Aq (Ae) (by first | rfl | exact decide_eq_true (by omega)) ?_
   refine Au <| Ab <| Af <| A0 <| Cp (.inl rfl) (fun _ _ h => h) (by kernel_rfl) (by kernel_rfl) fun ds => ?_
   refine Bi rfl (Ag (Az rfl <| As rfl hs7)) ?_
   refine Bi rfl (A8 Bw (Az rfl <| Al rfl <| Ak rfl <| Az rfl <| Ar rfl <| Al rfl <| Ae) rfl rfl (A3 0 rfl)) ?_
   refine Bi rfl (Ag (Az rfl <| Ar rfl <| Ak rfl <| A7 rfl <| Aj rfl)) ?_
   refine Bi rfl (Ag (Az rfl <| Ar rfl <| Al rfl <| Ak rfl <| A7 rfl <| Aj rfl)) ?_
   refine Bi rfl (Ag (A7 rfl <| Ak rfl <| Al rfl <| Ae)) ?_
   refine Bi rfl (Ag (A7 rfl <| Al rfl <| As rfl hs9)) ?_
   refine Bi rfl (A9 (k := i) Ce (Al rfl <| Ae) hqs.plain (Ae) rfl hlt) ?_
   refine Bi rfl (Ap B8 (Ae) (hqs.cell1 hlt rfl)) ?_
   refine WQ_c rfl (Bj bd_90 A1 (.cons (Az rfl <| Ar rfl <| Ae) (.cons (Az rfl <| Al rfl <| Ae) (.cons (Az rfl <| Ae) (.cons (Ae) .nil)))) (refCounted_ok hr hv hl hll ht hp hqi hxl) (fun _ _ h => h)) ?_
   refine Bi rfl (q_min2 (A7 rfl <| Ae) (Ae)) ?_
   refine Bi rfl (Ac (Ae)) ?_
   refine C3 ?_
   refine Bb <| Ab <| Ai fun ds => Aa rfl (Ag (A7 rfl <| Az rfl <| Ar rfl <| Al rfl <| As rfl hs9)) ?_
   refine Aa rfl (Bp (Ae) Ad rfl (by omega) (by omega)) ?_
   refine Aa rfl (Ac (Ae)) ?_
   refine Ah <| Ab ⟨_, m - 1, Off.eq (Cq rfl <| Eb rfl <| Ba), by omega, ?_⟩
   exact ⟨i + 1, by omega, (Ae), ((Ar rfl <| Al rfl <| Ae)).trans (congrArg (Value.int .i64) (by rw [leastTo_succ hil, hqe])), rfl⟩
  ·
   refine Af <| Af <| Ai fun ds => Aa rfl (Ag (As rfl hs9)) ?_
   refine Aa rfl (Ag (Al rfl <| Ak rfl <| Al rfl <| Ae)) ?_
   refine Aa rfl (Bh Ce (Ae) hqs.plain) ?_
   refine Aa rfl (Br (Ar rfl <| Ae) (Ae)) ?_
   refine Ah <| Ab <| Am (Ae) (by first | rfl | exact decide_eq_false (by omega)) ?_
   obtain rfl : i = qs.length := by omega
   refine Bn ?_
   refine Bd <| Bd <| Bf <| Ab <| Af <| Ai fun ds => Aa rfl (Ag (Az rfl <| As rfl hs7)) ?_
   refine Aa rfl (Ac (Ae)) ?_
   refine Ah <| Ab <| A4 <| Ay rfl (.tmp (Ae) .nil) ?_
   show _ = _
   rw [leastTo_end (by rw [Cv hqm]; exact Nat.le_refl _)]; rfl
set_option maxRecDepth 100000 in
theorem refCost_ok {F : Heap} {vp ve : Value} {ps : List (Value × Edn)} {s : Stm} (hr : StmR F vp ve ps s) (hv : ValidT s) {v : Value} {l : List Int} (hl : Ints F v l) (hll : l.length = s.editions.length) (ht : IsTree l) : Ok Try.prog 71 [.agg #[vp, ve], v].toArray F fun u _ => u = .int .i64 (costL s l) := by
 refine Ok.intro Try.func71 rfl Try.ntmps71 rfl fun w0 => ?_
 have hL := hl.plain.lt
 have hL2 := hr.places.plain.lt
 have hnp := hv.np
 by_cases hft : fitsT s l = true
 ·
  refine Af <| Ai fun ds => Bk rfl (B1 (Aj rfl) rfl fun b1 hb1 nb1 => ?_)
  refine Aa rfl (Ac Ad) ?_
  refine Ah <| Ab <| Af <| Af <| Ai fun ds => Aa rfl (A8 Bw (Al rfl <| Ae) rfl rfl (A3 0 rfl)) ?_
  refine Aa rfl (Ag (Ar rfl <| Al rfl <| Aj rfl)) ?_
  refine B0 rfl (Bj bd_94 A1 (.cons (Al rfl <| Ae) (.cons (Ae) .nil)) (refFits_ok hr hv hl hll ht) (fun _ _ h => h)) ?_
  refine Aa rfl (Cm (Ae)) ?_
  refine Ah <| Ab <| Am (Ae) (by rw [hft]; rfl) ?_
  refine Au <| Ab <| Af <| Ai fun ds => Aa rfl (Ac Ad) ?_
  refine Ah <| Ab <| Af <| Af <| Ai fun ds => Aa rfl (Ac Ad) ?_
  refine Ah <| Ab <| A0 <| Bs [5, 6, 11, 12, 13, 14, 15, 16, 17, 18, 19, 20, 21, 22, 23] (fun m e σ => ∃ p : Nat, m + p = s.places.length ∧ e 6 = .int .i64 (p : Int) ∧ e 5 = .int .i64 (sumN p (leastL s l)) ∧ σ = ⟨F, [(b1, bx 25 [vp, ve])]⟩) (s.places.length) ?_ ?_
  · exact ⟨0, by omega, (Ae), (Al rfl <| Ae), rfl⟩
  ·
   rintro m e _ ⟨p, hm, hs6, hs5, rfl⟩
   by_cases hlt : p < s.places.length
   ·
    have hsb := sum_least_bound (s := s) (l := l) (k := p)
    have hlb := Eq (s := s) (l := l) (p := p)
    refine Af <| Af <| Ai fun ds => Aa rfl (Ag (As rfl hs6)) ?_
    refine Aa rfl (Ao Co (Al rfl <| Ak rfl <| Az rfl <| Ar rfl <| Al rfl <| Ae)) ?_
    refine Aa rfl (Ap C2 (Ae) (Cell.own 0 rfl rfl)) ?_
    refine Aa rfl (Bh Da (Ae) hr.places.plain) ?_
    refine Aa rfl (Br (Ar rfl <| Al rfl <| Ae) (Ae)) ?_
    refine Ah <| Ab <| Aq (Ae) (by first | rfl | exact decide_eq_true (by omega)) ?_
    refine Au <| Ab <| Af <| A0 <| Ai fun ds => Aa rfl (Ag (Az rfl <| Al rfl <| As rfl hs5)) ?_
    refine Aa rfl (A8 Bw (Az rfl <| Ar rfl <| Ak rfl <| Az rfl <| Ar rfl <| Al rfl <| Ae) rfl rfl (A3 0 rfl)) ?_
    refine Aa rfl (Ag (Az rfl <| Ar rfl <| Al rfl <| Ak rfl <| A7 rfl <| Aj rfl)) ?_
    refine Aa rfl (Ag (A7 rfl <| As rfl hs6)) ?_
    refine B0 rfl (Bj bd_88 A1 (.cons (Ar rfl <| Ae) (.cons (Al rfl <| Ae) (.cons (Ae) .nil))) (refLeast_ok hr hv hl hll ht hlt) (fun _ _ h => h)) ?_
    refine Aa rfl (Bp (Az rfl <| Ae) (Ae) rfl (by omega) (by omega)) ?_
    refine Aa rfl (Ac (Ae)) ?_
    refine Ah <| Bb <| Ab <| Ai fun ds => Aa rfl (Ag (A7 rfl <| Az rfl <| As rfl hs6)) ?_
    refine Aa rfl (Bp (Ae) Ad rfl (by omega) (by omega)) ?_
    refine Aa rfl (Ac (Ae)) ?_
    refine Ah <| Ab ⟨_, m - 1, Off.eq (Di rfl <| Dy rfl <| Eb rfl <| Df rfl <| Ba), by omega, ?_⟩
    exact ⟨p + 1, by omega, (Ae), (Ar rfl <| Al rfl <| Ae), rfl⟩
   ·
    refine Af <| Af <| Ai fun ds => Aa rfl (Ag (As rfl hs6)) ?_
    refine Aa rfl (Ao Co (Al rfl <| Ak rfl <| Az rfl <| Ar rfl <| Al rfl <| Ae)) ?_
    refine Aa rfl (Ap C2 (Ae) (Cell.own 0 rfl rfl)) ?_
    refine Aa rfl (Bh Da (Ae) hr.places.plain) ?_
    refine Aa rfl (Br (Ar rfl <| Al rfl <| Ae) (Ae)) ?_
    refine Ah <| Ab <| Am (Ae) (by first | rfl | exact decide_eq_false (by omega)) ?_
    obtain rfl : p = s.places.length := by omega
    refine Bn ?_
    refine Bd <| Bd <| Bf <| Ab <| Af <| Ai fun ds => Aa rfl (Ag (Az rfl <| Al rfl <| As rfl hs5)) ?_
    refine Aa rfl (q_min2 (Ae) Ad) ?_
    refine Aa rfl (Ac (Ae)) ?_
    refine Ah <| Ab <| A4 <| Ay rfl (.tmp (Ae) .nil) ?_
    show _ = _
    rw [costL_fits hft]; rfl
 ·
  replace hft : fitsT s l = false := by simpa using hft
  refine Af <| Ai fun ds => Bk rfl (B1 (Aj rfl) rfl fun b3 hb3 nb3 => ?_)
  refine Aa rfl (Ac Ad) ?_
  refine Ah <| Ab <| Af <| Af <| Ai fun ds => Aa rfl (A8 Bw (Al rfl <| Ae) rfl rfl (A3 0 rfl)) ?_
  refine Aa rfl (Ag (Ar rfl <| Al rfl <| Aj rfl)) ?_
  refine B0 rfl (Bj bd_94 A1 (.cons (Al rfl <| Ae) (.cons (Ae) .nil)) (refFits_ok hr hv hl hll ht) (fun _ _ h => h)) ?_
  refine Aa rfl (Cm (Ae)) ?_
  refine Ah <| Ab <| Aq (Ae) (by rw [hft]; rfl) ?_
  refine Af <| Ai fun ds => Aa rfl (Ac Ad) ?_
  refine Ah <| Ab <| A4 <| Bc ?_
  refine Ay rfl (.tmp (Ae) .nil) ?_
  show _ = _
  rw [costL_no hft]; rfl
end Go.Proofs.Ytccogmkhijgelaa
namespace Go.Proofs.Ytccogmkhijgelaa
open Go.RowKit
section
variable {n d j : Nat} {b : List Int}
def treesTo (n d : Nat) (b : List Int) (j : Nat) : List (List Int) := (List.range j).flatMap fun j : Nat => treesF n d (b ++ [(j : Int) - 1])
theorem treesTo_succ : treesTo n d b (j + 1) = treesTo n d b j ++ treesF n d (b ++ [(j : Int) - 1]) := by
 unfold treesTo; rw [List.range_succ, List.flatMap_append]; simp
theorem treesTo_end : treesTo n d b (n + 1) = treesF n (d + 1) b := rfl
theorem trees_len5 (hn : n ≤ 5) (hd : d ≤ 5) : (treesF n d b).length ≤ 7776 := by
 refine Nat.le_trans trees_len (Nat.le_trans (Nat.pow_le_pow_left (show n + 1 ≤ 6 by omega) d) ?_)
 exact Nat.pow_le_pow_right (n := 6) (by omega) hd
theorem treesTo_len5 (hn : n ≤ 5) (hd : d ≤ 5) : (treesTo n d b j).length ≤ j * 7776 := by
 induction j with
 | zero => simp [treesTo]
 | succ j ih =>
   rw [treesTo_succ, List.length_append]
   have := trees_len5 (b := b ++ [(j : Int) - 1]) hn hd
   omega
def InN (n : Nat) (b : List Int) : Prop := ∀ i, i < b.length → -1 ≤ upN b i ∧ upN b i < n
theorem InN.nil : InN n [] := fun i h => absurd h (by simp)
theorem InN.snoc (h : InN n b) {v : Int} (hv : -1 ≤ v ∧ v < n) : InN n (b ++ [v]) := fun i hi => by
 by_cases hb : i < b.length
 · rw [upN_left hb]; exact h i hb
 · rw [List.length_append, List.length_singleton] at hi
   obtain rfl : i = b.length := by omega
   have := upN_mid (b := b) (t := []) (v := v)
   rw [List.append_nil] at this
   rw [this]; exact hv
theorem InN.in_ (h : InN n b) (hl : b.length = n) : TreeIn b := fun i hi => by rw [hl]; exact h i hi
theorem treesZ_yes (hT : isT b = true) : treesF n 0 b = [b] := by unfold treesF; rw [if_pos hT]
theorem treesZ_no (hT : isT b = false) : treesF n 0 b = [] := by unfold treesF; rw [if_neg (by rw [hT]; simp)]
theorem treesN_mem {l : List Int} (h : l ∈ treesF n n []) : l.length = n ∧ IsTree l := by
 obtain ⟨t, rfl, ht, h, hT⟩ := trees_mem.1 h
 exact ⟨ht, isTree_of (fun i hi => by have hi2 : i < l.length := hi; have := h i (by omega); exact ⟨this.1, Int.lt_of_lt_of_le this.2 (by rw [← ht]; exact Int.le_refl _)⟩) hT⟩
end
section
variable {s : Stm} {F : Heap} {zs : List (Value × List Int)} {i : Nat}
def selZ (s : Stm) (zs : List (Value × List Int)) (i : Nat) : List (Value × List Int) := (zs.take i).filter fun z => fitsT s z.2
theorem selZ_yes (h : i < zs.length) (hf : fitsT s zs[i].2 = true) : selZ s zs (i + 1) = selZ s zs i ++ [zs[i]] := by
 unfold selZ; rw [List.take_succ_eq_append_getElem h, List.filter_append, List.filter_cons, if_pos hf]; rfl
theorem selZ_no (h : i < zs.length) (hf : fitsT s zs[i].2 = false) : selZ s zs (i + 1) = selZ s zs i := by
 unfold selZ; rw [List.take_succ_eq_append_getElem h, List.filter_append, List.filter_cons, if_neg (by rw [hf]; simp)]; simp
theorem selZ_len : (selZ s zs i).length ≤ zs.length := Nat.le_trans (List.length_filter_le _ _) (by rw [List.length_take]; omega)
theorem selZ_all (h : AllZ F zs) : AllZ F (selZ s zs i) := fun p hp => h p (List.mem_of_mem_take (List.mem_filter.1 hp).1)
theorem selZ_end : (selZ s zs zs.length).map (·.2) = (zs.map (·.2)).filter (fitsT s) := by
 unfold selZ; rw [List.take_length, List.filter_map]; rfl
def bestSt (s : Stm) (st : List (Value × List Int) × Int) (z : Value × List Int) : List (Value × List Int) × Int :=
 if costL s z.2 < st.2 then ([z], costL s z.2) else if costL s z.2 = st.2 ∧ costL s z.2 < 1000 then (st.1 ++ [z], st.2) else st
def bestZ (s : Stm) (zs : List (Value × List Int)) (i : Nat) : List (Value × List Int) × Int := (zs.take i).foldl (bestSt s) ([], 1000)
theorem bestZ_succ (h : i < zs.length) : bestZ s zs (i + 1) = bestSt s (bestZ s zs i) zs[i] := by
 unfold bestZ; rw [List.take_succ_eq_append_getElem h, List.foldl_append]; rfl
theorem bestZ_lt (h : i < zs.length) (h1 : costL s zs[i].2 < (bestZ s zs i).2) : bestZ s zs (i + 1) = ([zs[i]], costL s zs[i].2) := by rw [bestZ_succ h]; exact if_pos h1
theorem bestZ_eq (h : i < zs.length) (h1 : costL s zs[i].2 = (bestZ s zs i).2) (h2 : costL s zs[i].2 < 1000) : bestZ s zs (i + 1) = ((bestZ s zs i).1 ++ [zs[i]], (bestZ s zs i).2) := by
 rw [bestZ_succ h]; unfold bestSt; rw [if_neg (by omega), if_pos ⟨h1, h2⟩]
theorem bestZ_no (h : i < zs.length) (h1 : ¬ costL s zs[i].2 < (bestZ s zs i).2) (h2 : ¬ (costL s zs[i].2 = (bestZ s zs i).2 ∧ costL s zs[i].2 < 1000)) : bestZ s zs (i + 1) = bestZ s zs i := by
 rw [bestZ_succ h]; unfold bestSt; rw [if_neg h1, if_neg h2]
theorem best_fold : ∀ {zs : List (Value × List Int)} {q : List (Value × List Int)} {m : Int}, ((zs.foldl (bestSt s) (q, m)).1.map (·.2), (zs.foldl (bestSt s) (q, m)).2) = (zs.map (·.2)).foldl (bestStep 1000 (costL s)) (q.map (·.2), m)
 | [], q, m => rfl
 | z :: zs, q, m => by
   rw [List.foldl_cons, List.map_cons, List.foldl_cons]
   have e : bestStep 1000 (costL s) (q.map (·.2), m) z.2 = ((bestSt s (q, m) z).1.map (·.2), (bestSt s (q, m) z).2) := by
     unfold bestStep bestSt
     simp only
     split
     · rfl
     · split
       · rw [List.map_append]; rfl
       · rfl
   rw [e]
   exact best_fold
theorem bestZ_end (h : zs.map (·.2) = allTrees s) : (bestZ s zs zs.length).1.map (·.2) = bestsL s ∧ (bestZ s zs zs.length).2 = bestsM s := by
 have := best_fold (s := s) (zs := zs) (q := []) (m := 1000)
 unfold bestZ bestsL bestsM
 rw [List.take_length]
 rw [h] at this
 exact ⟨congrArg Prod.fst this, congrArg Prod.snd this⟩
theorem bestZ_le {s : Stm} {zs : List (Value × List Int)} : ∀ {i : Nat}, (bestZ s zs i).2 ≤ 1000 ∧ (bestZ s zs i).1.length ≤ i
 | 0 => by simp [bestZ]
 | i + 1 => by
   have ih := bestZ_le (s := s) (zs := zs) (i := i)
   by_cases h : i < zs.length
   · rw [bestZ_succ h]
     unfold bestSt
     split
     · simp only [List.length_singleton]; omega
     · split
       · simp only [List.length_append, List.length_singleton]; omega
       · omega
   · have e : bestZ s zs (i + 1) = bestZ s zs i := by unfold bestZ; rw [List.take_of_length_le (by omega), List.take_of_length_le (by omega)]
     rw [e]; omega
theorem bestZ_all (h : AllZ F zs) : ∀ {i : Nat}, AllZ F (bestZ s zs i).1
 | 0 => AllZ.nil
 | i + 1 => by
   have ih := bestZ_all h (i := i)
   by_cases hi : i < zs.length
   · have h1 := h _ (List.getElem_mem hi)
     rw [bestZ_succ hi]
     unfold bestSt
     split
     · intro p hp; simp at hp; subst hp; exact h1
     · split
       · exact ih.add fun p hp => by simp at hp; subst hp; exact h1
       · exact ih
   · have e : bestZ s zs (i + 1) = bestZ s zs i := by unfold bestZ; rw [List.take_of_length_le (by omega), List.take_of_length_le (by omega)]
     rw [e]; exact ih
end
section
variable {s : Stm} {F : Heap} {u : Value}
def AskZ (F : Heap) (u : Value) (s : Stm) : Prop := ∃ v, u = .tuple #[v, .int .i64 (askedE s).2.1, .int .i64 (askedE s).2.2] ∧ LstZ F v (askedE s).1
theorem AskZ.ok (h : AskZ F u s) (h0 : askedT s = 0) : ∃ v, u = .tuple #[v, .int .i64 (bestsM s), .int .i64 0] ∧ LstZ F v (bestsL s) := by
 unfold AskZ at h; rw [askedE_ok h0] at h; exact h
theorem AskZ.bad (h : AskZ F u s) (h0 : askedT s ≠ 0) : ∃ v, u = .tuple #[v, .int .i64 0, .int .i64 (askedT s)] := by
 unfold AskZ at h; rw [askedE_bad h0] at h; obtain ⟨v, rfl, -⟩ := h; exact ⟨v, rfl⟩
def firstTo (s : Stm) (i k : Nat) : Bool := ((bestsL s).take k).any fun t => decide (upN t i = -1)
theorem firstTo_succ {i k : Nat} (h : k < (bestsL s).length) : firstTo s i (k + 1) = (firstTo s i k || decide (upN (bestsL s)[k] i = -1)) := by
 unfold firstTo; rw [List.take_succ_eq_append_getElem h, List.any_append]; simp
theorem firstTo_end {i : Nat} : firstTo s i (bestsL s).length = firstB s i := by unfold firstTo firstB; rw [List.take_length]
def fromTo (s : Stm) (a b k : Nat) : Int := ((((bestsL s).take k).countP (fromB a b) : Nat) : Int)
theorem fromTo_succ {a b k : Nat} (h : k < (bestsL s).length) : fromTo s a b (k + 1) = if fromB a b (bestsL s)[k] = true then fromTo s a b k + 1 else fromTo s a b k := by
 unfold fromTo; rw [List.take_succ_eq_append_getElem h, List.countP_append, List.countP_singleton]
 split <;> simp
theorem fromTo_bound {a b k : Nat} : 0 ≤ fromTo s a b k ∧ fromTo s a b k ≤ k := by
 have h1 := List.countP_le_length (p := fromB a b) (l := (bestsL s).take k)
 have h2 : ((bestsL s).take k).length ≤ k := by rw [List.length_take]; omega
 unfold fromTo; omega
theorem from_sure {a b : Nat} (hn : bestsL s ≠ []) (h : fromTo s a b (bestsL s).length = (bestsL s).length) : (bestsL s).any (fromB a b) ≠ false ∧ (bestsL s).any (fun t => !(fromB a b t)) = false := by
 unfold fromTo at h
 rw [List.take_length] at h
 have h1 : (bestsL s).countP (fromB a b) = (bestsL s).length := by omega
 rw [List.countP_eq_length] at h1
 refine ⟨fun h2 => ?_, ?_⟩
 · obtain ⟨x, hx⟩ := List.exists_mem_of_ne_nil _ hn
   rw [List.any_eq_false] at h2
   exact h2 x hx (h1 x hx)
 · rw [List.any_eq_false]; intro x hx; rw [h1 x hx]; simp
theorem from_never {a b : Nat} (h : fromTo s a b (bestsL s).length = 0) : (bestsL s).any (fromB a b) = false := by
 unfold fromTo at h
 rw [List.take_length] at h
 have h1 : (bestsL s).countP (fromB a b) = 0 := by omega
 rw [List.countP_eq_zero] at h1
 rw [List.any_eq_false]; exact h1
theorem from_may {a b : Nat} (h : fromTo s a b (bestsL s).length ≠ (bestsL s).length) (h0 : fromTo s a b (bestsL s).length ≠ 0) : (bestsL s).any (fromB a b) ≠ false ∧ (bestsL s).any (fun t => !(fromB a b t)) ≠ false := by
 unfold fromTo at h h0
 rw [List.take_length] at h h0
 refine ⟨fun h2 => h0 ?_, fun h2 => h ?_⟩
 · rw [List.any_eq_false] at h2
   have := List.countP_eq_zero.2 h2
   omega
 · rw [List.any_eq_false] at h2
   have := List.countP_eq_length.2 (fun x hx => show fromB a b x = true by have := h2 x hx; simpa using this)
   omega
end
end Go.Proofs.Ytccogmkhijgelaa
