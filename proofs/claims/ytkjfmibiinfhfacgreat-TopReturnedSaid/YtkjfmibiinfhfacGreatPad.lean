/-
  A part of a proof: TopReturned returns true of any copy, any sale, any lot and any ring, and leaves what it is handed as it was. No conditions.
-/
import Derived.Test.YtkjfmibiinfhfacGreatPac
import Derived.KernelRfl
namespace Go.Proofs.YtkjfmibiinfhfacGreat
set_option synthInstance.maxSize 4000
set_option synthInstance.maxHeartbeats 1000000
section
open Go.RowKit
def HeldG (w : World) (H : List (Nat × Obj)) (w' : World) (F' : Heap) (H' : List (Nat × Obj)) : Prop := (∀ p ∈ H', w'.heap[p.1]? = some p.2 ∧ F' p.1 = none ∧ (p.1 ∈ keys H ∨ w.heap.size ≤ p.1)) ∧ (keys H').Nodup
def OkG (P : Program) (f : FuncId) (args : Array Value) (F : Heap) (H : List (Nat × Obj)) (R : Value → Heap → List (Nat × Obj) → Prop) : Prop :=
 ∀ w, Sub F w → (∀ p ∈ H, w.heap[p.1]? = some p.2 ∧ F p.1 = none) → (keys H).Nodup →
   Calls P f args w fun r w' => ∃ v F' H', r = .returned v ∧ Grow w F (keys H) w' F' ∧ HeldG w H w' F' H' ∧ R v F' H'
theorem OkG.mono {P : Program} {f : FuncId} {args : Array Value} {F : Heap} {H : List (Nat × Obj)} {R R' : Value → Heap → List (Nat × Obj) → Prop} (h : OkG P f args F H R)
   (hr : ∀ v F' H', F.le F' → R v F' H' → R' v F' H') : OkG P f args F H R' := by
 intro w h1 h2 h3
 refine (h w h1 h2 h3).mono fun r w' hq => ?_
 obtain ⟨v, F', H', q1, q2, q3, q4⟩ := hq
 exact ⟨v, F', H', q1, q2, q3, hr v F' H' q2.le q4⟩
def OkYG (P : Program) (l : Nat) (args : List Value) (F : Heap) (H : List (Nat × Obj)) (R : Value → Heap → List (Nat × Obj) → Prop) : Prop :=
 ∀ w, Sub F w → (∀ p ∈ H, w.heap[p.1]? = some p.2 ∧ F p.1 = none) → (keys H).Nodup →
   ∃ fn tmps assign body, (Instr.yield l args.toArray).run P w = .ok (.round l fn tmps assign body) w ∧
     RoundIn Fence.wide 0 P l fn tmps assign body w fun r w' => ∃ v F' H', r = .returned v ∧ Grow w F (keys H) w' F' ∧ HeldG w H w' F' H' ∧ R v F' H'
theorem OkYG.mono {P : Program} {l : Nat} {args : List Value} {F : Heap} {H : List (Nat × Obj)} {R R' : Value → Heap → List (Nat × Obj) → Prop} (h : OkYG P l args F H R) (hr : ∀ v F' H', F.le F' → R v F' H' → R' v F' H') : OkYG P l args F H R' := by
 intro w h1 h2 h3
 obtain ⟨fn, tm, as1, bo, hy, hR⟩ := h w h1 h2 h3
 refine ⟨fn, tm, as1, bo, hy, hR.mono fun r w' hq => ?_⟩
 obtain ⟨v, F', H', q1, q2, q3, q4⟩ := hq
 exact ⟨v, F', H', q1, q2, q3, hr v F' H' q2.le q4⟩
section
variable {P : Program} {n : Nat} {B : Base} {e : Env} {σ : St} {ty : TypeId} {pos : String} {af : Array Edge}
theorem Holds.growG {w : World} (h : Holds B σ w) {Hc rest : List (Nat × Obj)} {w' : World} {F' : Heap} {H' : List (Nat × Obj)} (hH : σ.H = Hc ++ rest)
   (hg : Grow w σ.F (keys Hc) w' F') (hh : HeldG w Hc w' F' H') : Holds B ⟨F', H' ++ rest⟩ w' := by
 obtain ⟨hh1, hh2⟩ := hh
 have hin : ∀ p ∈ H', (∃ q ∈ Hc, q.1 = p.1) ∨ w.heap.size ≤ p.1 := fun p hp => (hh1 p hp).2.2.imp (fun hk => by
   obtain ⟨q, hq, he⟩ := List.mem_map.1 hk
   exact ⟨q, hq, he⟩) id
 have hnd := h.nodup
 rw [hH, List.map_append, List.nodup_append] at hnd
 refine ⟨hg.os.trans h.os, hg.tape.trans h.tape, hg.output.trans h.output, Nat.le_trans h.size hg.size, ?_, hg.sub, ?_, ?_, ?_, Heap.le_trans h.le hg.le, fun D hD => ?_, h.dnodup⟩
 · intro b hb hM
   have hnot : b ∉ keys Hc := by
     intro hm
     obtain ⟨p, hp, rfl⟩ := List.mem_map.1 hm
     rcases (h.own p (by rw [hH]; exact List.mem_append_left _ hp)).2.2 with h1 | h1
     · omega
     exact hM h1
   rw [hg.old b (by have := h.size; omega) hnot]; exact h.old b hb hM
 · intro p hp
   rcases List.mem_append.1 hp with hp | hp
   · obtain ⟨h1, h2, -⟩ := hh1 p hp
     refine ⟨h1, h2, ?_⟩
     rcases hin p hp with ⟨q, hq, he⟩ | hnew
     · have := (h.own q (by rw [hH]; exact List.mem_append_left _ hq)).2.2
       rw [he] at this; exact this
     exact .inl (Nat.le_trans h.size hnew)
   have hp' : p ∈ σ.H := by rw [hH]; exact List.mem_append_right _ hp
   obtain ⟨h1, h2, h3⟩ := h.own p hp'
   have hlt := h.lt hp'
   have hnot : p.1 ∉ keys Hc := fun hm => hnd.2.2 _ hm _ (List.mem_map_of_mem hp) rfl
   exact ⟨by rw [hg.old _ hlt hnot]; exact h1, (hg.ext _ hlt).trans h2, h3⟩
 · rw [List.map_append, List.nodup_append]
   refine ⟨hh2, hnd.2.1, fun a ha b hb he => ?_⟩
   obtain ⟨p, hp, rfl⟩ := List.mem_map.1 ha
   obtain ⟨q, hq, rfl⟩ := List.mem_map.1 hb
   rcases hin p hp with ⟨r, hr, hre⟩ | hnew
   · exact hnd.2.2 _ (List.mem_map_of_mem hr) _ (List.mem_map_of_mem hq) (hre.trans he)
   have := h.lt (p := q) (by rw [hH]; exact List.mem_append_right _ hq)
   omega
 · intro b hb
   exact (hg.ext b (by have := h.size; omega)).trans (h.ext b hb)
 obtain ⟨h1, h2, h3, h4⟩ := h.marks D hD
 have hlt := (Array.getElem?_eq_some_iff.1 h1).1
 have hnot : D ∉ keys Hc := fun hm => h4 (by rw [hH, List.map_append]; exact List.mem_append_left _ hm)
 refine ⟨by rw [hg.old _ hlt hnot]; exact h1, (hg.ext _ hlt).trans h2, h3, fun hm => ?_⟩
 rw [List.map_append] at hm
 rcases List.mem_append.1 hm with hm | hm
 · obtain ⟨p, hp, he⟩ := List.mem_map.1 hm
   rcases hin p hp with ⟨r, hr, hre⟩ | hnew
   · exact hnot (by rw [← he, ← hre]; exact List.mem_map_of_mem hr)
   omega
 exact h4 (by rw [hH, List.map_append]; exact List.mem_append_right _ hm)
theorem EI {d : Option Nat} {g : FuncId} {f : Operand} {cs vs : List Value} {xs : List Operand} {at_ : Array TypeId} {Hc : List (Nat × Obj)}
   {R : Value → Heap → List (Nat × Obj) → Prop} {K : Value → St → Prop} (hg : Body P g) (hf : ev e f = .func (.func g) #[] cs.toArray) (hx : Av e xs vs) (hH : σ.H = Hc)
   (hok : OkG P g (vs ++ cs).toArray σ.F Hc R) (hn : ∀ v F' H', R v F' H' → σ.F.le F' → K v ⟨F', H'⟩) :
   OpX P n B ⟨d, .call ⟨.value f, xs.toArray, at_⟩, ty, pos, af, none⟩ e σ K := by
 intro a w ha hw next Qx hnext
 unfold Oper.wp
 rw [ha.ev, E1 hg hf hx, Oper.upon_enter]
 refine (hok w hw.sub (fun p hp => ?_) ?_).mono fun r w' hq => ?_
 · obtain ⟨h1, h2, -⟩ := hw.own p (by rw [hH]; exact hp)
   exact ⟨h1, h2⟩
 · have := hw.nodup
   rw [hH] at this
   exact this
 obtain ⟨v, F', H', rfl, hg', hh, hR⟩ := hq
 have := hw.growG (Hc := Hc) (rest := []) (by simp [hH]) hg' hh
 rw [List.append_nil] at this
 exact hnext v _ w' (hn v F' H' hR hg'.le) this
theorem P1 {ops : Array Oper} {Q : Exit → Env → St → Prop} {rest : List Oper} {d : Nat} {f : Operand} {l : Nat} {xs : List Operand} {vs : List Value} {at_ : Array TypeId} {Hc : List (Nat × Obj)} {R : Value → Heap → List (Nat × Obj) → Prop}
   (hd : Nat.blt d n = true) (hf : ev e f = .func (.yield l) #[] #[]) (hx : Av e xs vs) (hH : σ.H = Hc) (hok : OkYG P l vs σ.F Hc R)
   (hn : ∀ v F' H', R v F' H' → σ.F.le F' → WI P n B ops Q rest (upd e d v) ⟨F', H'⟩) : WI P n B ops Q (⟨some d, .call ⟨.value f, xs.toArray, at_⟩, ty, pos, af, none⟩ :: rest) e σ := by
 intro a w ha hw
 have hnd := hw.nodup
 rw [hH] at hnd
 obtain ⟨fn, tm, as1, bo, hy, hR⟩ := hok w hw.sub (fun p hp => ⟨(hw.own p (by rw [hH]; exact hp)).1, (hw.own p (by rw [hH]; exact hp)).2.1⟩) hnd
 unfold wpListIn
 rw [if_pos (by simp [Region.wanted])]
 refine ⟨fun _ _ => trivial, ?_⟩
 have hrun : (execOp (ev e) ⟨some d, .call ⟨.value f, xs.toArray, at_⟩, ty, pos, af, none⟩).run P w = .ok (.round l fn tm as1 bo) w := by
   have hm := hx.map
   simp [execOp, resolve, invoke, Deferred.ofValue, hf, hm, hy]
 rw [show (fence B.ro).round = B.ro from rfl, semAt_eq (.inr rfl), ha.ev, hrun]
 refine ⟨fun h => by simp [fence] at h, RoundIn.mono (F := fence B.ro) (show RoundIn (fence B.ro) 0 P l fn tm as1 bo w _ from hR) fun r w' hq => ?_⟩
 obtain ⟨v, F', H', rfl, q2, q3, q5⟩ := hq
 have h3 := hw.growG (Hc := Hc) (rest := []) (by simp [hH]) q2 q3
 rw [List.append_nil] at h3
 exact hn v F' H' q5 q2.le _ _ (ha.put (by simpa using hd) v) h3
def PostG (P : Program) (fn : Func) (B : Base) (R : Value → Heap → List (Nat × Obj) → Prop) : Exit → Env → St → Prop
 | .normal, e, σ | .ret, e, σ => ∃ rs vs F' H', fn.results = List.toArray rs ∧ Rv P e σ rs vs ∧ (∀ ds w, Holds (B.at ds) σ w → Holds (B.at ds) ⟨F', H'⟩ w) ∧ R (outOf vs) F' H'
 | _, _, _ => False
theorem OkG.intro {f : FuncId} {fn : Func} {c : Code} {args : List Value} {F : Heap} {H : List (Nat × Obj)} {R : Value → Heap → List (Nat × Obj) → Prop} (hf : P.funcs[f]? = some fn) (hb : fn.body = some c) (hn : fn.ntmps = n) (hsz : Nat.ble args.length n = true)
   (h : ∀ w, WC P n ⟨w, keys H, F, [], none⟩ c (PostG P fn ⟨w, keys H, F, [], none⟩ R) (fun t => args.getD t undef) ⟨F, H⟩) : OkG P f args.toArray F H R := by
 intro w hs hH hnd
 refine (callsIn_wide (n := 0)).1 (callsIn_of_wp_marks (F := fence none) hf hb trivial (wpIn_mono (h w [] _ _ ?_ ?_) fun x a' w' hq => ?_))
 · refine ⟨?_, rfl, fun t => ?_⟩
   · have : args.length ≤ n := by simpa using hsz
     simp [hn]; omega
   have hl : args.length ≤ n := by simpa using hsz
   by_cases ht : t < args.length
   · simp [Array.getElem?_append_left, ht]
   simp only [Array.getD_eq_getD_getElem?, List.getD_eq_getElem?_getD]
   rw [Array.getElem?_append_right (by simp; omega), List.getElem?_eq_none (by omega)]
   simp only [List.size_toArray, Array.getElem?_replicate]
   split <;> rfl
 · exact ⟨rfl, rfl, rfl, Nat.le_refl _, fun _ _ _ => rfl, hs, fun p hp => ⟨(hH p hp).1, (hH p hp).2, .inr (List.mem_map_of_mem hp)⟩, hnd, fun _ _ => rfl, Heap.le_refl _, (fun D hD => nomatch hD), List.nodup_nil⟩
 obtain ⟨ds, e', σ', h1, h2, h3⟩ := hq
 have fin : ∀ rs vs F' H', fn.results = List.toArray rs → Rv P e' σ' rs vs → (∀ ds w2, Holds (Base.at ⟨w, keys H, F, [], none⟩ ds) σ' w2 → Holds (Base.at ⟨w, keys H, F, [], none⟩ ds) ⟨F', H'⟩ w2) → R (outOf vs) F' H' →
     LeavesInM (fence none) 0 P fn a'.tmps (fun r w' => ∃ v F' H', r = .returned v ∧ Grow w F (keys H) w' F' ∧ HeldG w H w' F' H' ∧ R v F' H') a'.defers .returning w' := by
   intro rs vs F' H' q1 q2 q3 q5
   rw [h1.defers]
   refine GE (B := ⟨w, keys H, F, [], none⟩) ds w' h2 fun w2 hw2 => ?_
   have h2' := q3 [] w2 hw2
   exact ⟨_, FX q1 q2 h1 hw2, _, F', H', rfl, ⟨h2'.os, h2'.tape, h2'.output, h2'.size, h2'.old, h2'.le, h2'.sub, h2'.ext⟩, ⟨fun p hp => ⟨(h2'.own p hp).1, (h2'.own p hp).2.1, (h2'.own p hp).2.2.symm⟩, h2'.nodup⟩, q5⟩
 cases x with
 | normal => obtain ⟨rs, vs, F', H', q1, q2, q3, q5⟩ := h3; exact fin rs vs F' H' q1 q2 q3 q5
 | ret => obtain ⟨rs, vs, F', H', q1, q2, q3, q5⟩ := h3; exact fin rs vs F' H' q1 q2 q3 q5
 | exit id => exact h3.elim
 | goto l => exact h3.elim
 | panic ch => exact h3.elim
 | outgrown => exact h3.elim
theorem C1 {fn : Func} {R : Value → Heap → List (Nat × Obj) → Prop} {rs : List ResultVar} {vs : List Value} {H' : List (Nat × Obj)} (hr : fn.results = rs.toArray) (hv : Rv P e σ rs vs) (hp : Pick σ.H H') (hR : R (outOf vs) σ.F H') :
   PostG P fn B R .ret e σ := ⟨rs, vs, σ.F, H', hr, hv, fun _ _ h => h.pick hp, hR⟩
theorem G9 {fn : Func} {R : Value → Heap → List (Nat × Obj) → Prop} {rs : List ResultVar} {vs : List Value} {H' : List (Nat × Obj)} (hr : fn.results = rs.toArray) (hv : Rv P e σ rs vs) (hp : Pick σ.H H') (hR : R (outOf vs) σ.F H') :
   PostG P fn B R .normal e σ := ⟨rs, vs, σ.F, H', hr, hv, fun _ _ h => h.pick hp, hR⟩
theorem Hb {Q : Exit → Env → St → Prop} {g : Operand} {ps : Array Tmp} {assign body : Code} {gf : FuncId} {cs : List Value} (hro : B.ro = none) (hg : ev e g = .func (.func gf) #[] cs.toArray) (hb : Body P gf)
   (J : Heap → List (Nat × Obj) → Prop) (Jx : Code → Heap → List (Nat × Obj) → Prop)
   (h : ∀ L D fn tm, tm.size = n → (∀ t, tm.getD t undef = e t) → OkG P gf (.func (.yield L) #[] #[] :: cs).toArray σ.F ((L, loopO fn tm ps assign body D .ready none) :: (D, openO) :: σ.H) fun _ F' H' =>
     ∃ H1, H' = (L, loopO fn tm ps assign body D .ready none) :: (D, openO) :: H1 ∧ J F' H1 ∨ ∃ c, H' = (L, loopO fn tm ps assign body D .done (some c)) :: (D, openO) :: H1 ∧ Jx c F' H1)
   (hx : ∀ c F' H1, σ.F.le F' → Jx c F' H1 → WC P n B c Q e ⟨F', H1⟩)
   (hn : ∀ F' H1, σ.F.le F' → J F' H1 → Q .normal e ⟨F', H1⟩) : WC P n B (.rangeFunc g ps assign body) Q e σ := by
 intro ds a w ha hw
 rw [hro]
 refine wpIn_rangeFunc fun fn _ => ?_
 let W1 := (w.alloc openO).alloc (loopO fn a.tmps ps assign body w.heap.size .ready none)
 have hsz1 : (w.alloc openO).heap.size = w.heap.size + 1 := by simp
 have hW1 : Holds (B.at ds) ⟨σ.F, (w.heap.size + 1, loopO fn a.tmps ps assign body w.heap.size .ready none) :: (w.heap.size, openO) :: σ.H⟩ W1 := by
   have := (hw.alloc openO).alloc (loopO fn a.tmps ps assign body w.heap.size .ready none)
   rw [hsz1] at this
   exact this
 refine ⟨w.heap.size + 1, [mark w.heap.size], W1, { target := .fn (.func gf) cs.toArray, args := #[.func (.yield (w.heap.size + 1)) #[] #[]] }, W1, gf, (.func (.yield (w.heap.size + 1)) #[] #[] :: cs).toArray, W1, ?_, ?_, fun _ _ => trivial, ?_, fun h => by simp [fence] at h, trivial, ?_⟩
 · exact run_enterLoop_outer fn a.tmps ps assign body
 · simp only [resolve, ha.ev, hg]
   simp [go_sem]
   rfl
 · simp only [invoke]
   have := Ek hb (#[.func (.yield (w.heap.size + 1)) #[] #[]] ++ cs.toArray) W1
   simpa using this
 refine ((EY (ro := none) (k := 0 - 1)).2 (((h (w.heap.size + 1) w.heap.size fn a.tmps ha.size ha.get) W1 hW1.sub (fun p hp => ⟨(hW1.own p hp).1, (hW1.own p hp).2.1⟩) hW1.nodup).mono ?_)).2
 rintro r W2 ⟨v, F', H', rfl, hg', hh, hR⟩
 have hw2 := hW1.growG (Hc := (w.heap.size + 1, loopO fn a.tmps ps assign body w.heap.size .ready none) :: (w.heap.size, openO) :: σ.H) (rest := []) (by simp) hg' hh
 rw [List.append_nil] at hw2
 have hD : (B.at ds).w0.heap.size ≤ w.heap.size := hw.size
 have hfit : Fits n (B.at (w.heap.size :: ds)) { a with defers := [mark w.heap.size] ++ a.defers } e := ⟨ha.size, by show [mark w.heap.size] ++ a.defers = _; rw [ha.defers]; rfl, ha.get⟩
 have fin : ∀ st pe H1, H' = (w.heap.size + 1, loopO fn a.tmps ps assign body w.heap.size st pe) :: (w.heap.size, openO) :: H1 → st ≠ .busy →
     ∃ W4, (Instr.endLoop (w.heap.size + 1)).run P W2 = .ok pe W4 ∧ Holds (B.at (w.heap.size :: ds)) ⟨F', H1⟩ W4 := by
   intro st pe H1 he hst
   subst he
   have hl := (hw2.own (w.heap.size + 1, loopO fn a.tmps ps assign body w.heap.size st pe) (by simp)).1
   refine ⟨_, run_endLoop hl hst, ?_⟩
   have h4 := hw2.setObj (i := 0) (o' := loopO fn a.tmps ps assign body w.heap.size .exhausted pe) rfl
   have h5 : Holds (B.at ds) ⟨F', (w.heap.size, openO) :: H1⟩ (W2.putObj (w.heap.size + 1) (loopO fn a.tmps ps assign body w.heap.size .exhausted pe)) := Holds.drop (σ := ⟨F', _⟩) h4 (by simp)
   exact h5.toMark hD
 obtain ⟨H1, hR | ⟨c, hR⟩⟩ := hR
 · obtain ⟨he, hJ⟩ := hR
   obtain ⟨W4, h1, h2⟩ := fin _ _ _ he (by simp)
   exact ⟨none, W4, h1, w.heap.size :: ds, e, ⟨F', H1⟩, hfit, h2, hn F' H1 hg'.le hJ⟩
 obtain ⟨he, hJ⟩ := hR
 obtain ⟨W4, h1, h2⟩ := fin _ _ _ he (by simp)
 have := hx c F' H1 hg'.le hJ (w.heap.size :: ds) _ W4 hfit h2
 rw [hro] at this
 exact ⟨some c, W4, h1, this⟩
def RoundEG (B : Base) (L : Nat) (lo : LoopState → Option Code → Obj) (R : Value → Heap → List (Nat × Obj) → Prop) : Exit → Env → St → Prop := fun x _ σ =>
 let fin (v : Value) (st : LoopState) (pe : Option Code) := ∃ F' H2, (∀ ds w, Holds (B.at ds) σ w → Holds (B.at ds) ⟨F', (L, lo .busy none) :: H2⟩ w) ∧ R v F' ((L, lo st pe) :: H2)
 match x with
 | .normal => fin (.bool true) .ready none
 | .ret => fin (.bool false) .done (some .ret)
 | .exit id => fin (.bool false) .done (some (.exit id))
 | _ => False
theorem Hu {L D : Nat} {fn : FuncId} {tm : Array Value} {ps : List Tmp} {assign body : Code} {args : List Value} {F : Heap} {H : List (Nat × Obj)} {R : Value → Heap → List (Nat × Obj) → Prop}
   (hsz : tm.size = n) (htm : ∀ t, tm.getD t undef = e t) (hlen : args.length = ps.length) (hps : (ps.zip args).all (fun p => Nat.blt p.1 n) = true)
   (h : ∀ w0, WC P n ⟨w0, L :: keys H, F, [], some L⟩ assign (thenE (fun e' σ' => ∃ H2, σ'.H = (L, loopO fn tm ps.toArray assign body D .ready none) :: H2 ∧
       WC P n ⟨w0, L :: keys H, F, [], some L⟩ body (RoundEG ⟨w0, L :: keys H, F, [], some L⟩ L (loopO fn tm ps.toArray assign body D) R) e' ⟨σ'.F, (L, loopO fn tm ps.toArray assign body D .busy none) :: H2⟩) (fun _ _ _ => False))
     (updL e (ps.zip args)) ⟨F, (L, loopO fn tm ps.toArray assign body D .ready none) :: H⟩) :
   OkYG P L args F ((L, loopO fn tm ps.toArray assign body D .ready none) :: H) R := by
 intro w hs hH hnd
 have hl := (hH (L, loopO fn tm ps.toArray assign body D .ready none) (by simp)).1
 refine ⟨fn, _, assign, body, run_yield hl (by simpa using hlen), roundIn_of_wpIn trivial ?_⟩
 have hfit := MI (n := n) (B := ⟨w, L :: keys H, F, [], some L⟩) (ps.zip args) tm e hsz htm hps
 have hkeys : keys ((L, loopO fn tm ps.toArray assign body D .ready none) :: H) = L :: keys H := rfl
 have hw0 : Holds (Base.at ⟨w, L :: keys H, F, [], some L⟩ []) ⟨F, (L, loopO fn tm ps.toArray assign body D .ready none) :: H⟩ w :=
   ⟨rfl, rfl, rfl, Nat.le_refl _, fun _ _ _ => rfl, hs, fun p hp => ⟨(hH p hp).1, (hH p hp).2, .inr (List.mem_map_of_mem (f := Prod.fst) hp)⟩, hnd, fun _ _ => rfl, Heap.le_refl _, (fun D hD => nomatch hD), List.nodup_nil⟩
 have hzip : ((ps.toArray.zip args.toArray).foldl (fun tmps (t, a) => tmps.setIfInBounds t a) tm) = (ps.zip args).foldl (fun tm p => tm.setIfInBounds p.1 p.2) tm := by
   rw [show ps.toArray.zip args.toArray = (ps.zip args).toArray by simp, List.foldl_toArray]
 refine wpIn_mono (h w [] _ w ⟨?_, rfl, ?_⟩ hw0) ?_
 · show ((ps.toArray.zip args.toArray).foldl (fun tmps (t, a) => tmps.setIfInBounds t a) tm).size = n
   rw [hzip]; exact hfit.1
 · intro t
   show ((ps.toArray.zip args.toArray).foldl (fun tmps (t, a) => tmps.setIfInBounds t a) tm).getD t undef = _
   rw [hzip]; exact hfit.2 t
 rintro x a1 w1 ⟨ds1, e1, σ1, hf1, hh1, hq⟩
 cases x with
 | normal =>
   obtain ⟨H2, hσ, hbody⟩ := hq
   have hh1' : Holds (Base.at ⟨w, L :: keys H, F, [], some L⟩ ds1) ⟨σ1.F, (L, loopO fn tm ps.toArray assign body D .ready none) :: H2⟩ w1 := by rw [← hσ]; exact hh1
   have hl1 := (hh1'.own (L, loopO fn tm ps.toArray assign body D .ready none) (by simp)).1
   refine ⟨_, run_beginRound hl1 rfl, ?_⟩
   have hset := hh1'.setObj (i := 0) (o' := loopO fn tm ps.toArray assign body D .busy none) rfl
   refine wpIn_mono (hbody ds1 a1 _ hf1 hset) ?_
   rintro x a2 w2 ⟨ds2, e2, σ2, hf2, hh2, hq2⟩
   have fin : ∀ (v : Value) (st : LoopState) (pe : Option Code), (v = .bool pe.isNone ∧ st = if pe.isNone then .ready else .done) → (∃ F' H2, (∀ ds w', Holds (Base.at ⟨w, L :: keys H, F, [], some L⟩ ds) σ2 w' → Holds (Base.at ⟨w, L :: keys H, F, [], some L⟩ ds) ⟨F', (L, loopO fn tm ps.toArray assign body D .busy none) :: H2⟩ w') ∧ R v F' ((L, loopO fn tm ps.toArray assign body D st pe) :: H2)) →
       ∃ v' w', (Instr.endRound L pe).run P w2 = .ok v' w' ∧ ∃ v F' H', Ending.returned v' = .returned v ∧ Grow w F (L :: keys H) w' F' ∧ HeldG w ((L, loopO fn tm ps.toArray assign body D .ready none) :: H) w' F' H' ∧ R v F' H' := by
     rintro v st pe ⟨rfl, rfl⟩ ⟨F', H3, q1, q3⟩
     have h3 := q1 ds2 w2 hh2
     have hl3 := (h3.own (L, loopO fn tm ps.toArray assign body D .busy none) (by simp)).1
     have h4 := h3.setObj (i := 0) (o' := loopO fn tm ps.toArray assign body D (if pe.isNone then .ready else .done) pe) rfl
     exact ⟨_, _, run_endRound pe hl3, _, F', (L, loopO fn tm ps.toArray assign body D (if pe.isNone then .ready else .done) pe) :: H3, rfl, ⟨h4.os, h4.tape, h4.output, h4.size, h4.old, h4.le, h4.sub, h4.ext⟩, ⟨fun p hp => ⟨(h4.own p hp).1, (h4.own p hp).2.1, (h4.own p hp).2.2.symm⟩, h4.nodup⟩, q3⟩
   cases x with
   | normal => exact fin (.bool true) .ready none ⟨rfl, rfl⟩ hq2
   | ret => exact fin (.bool false) .done (some .ret) ⟨rfl, rfl⟩ hq2
   | exit id => exact fin (.bool false) .done (some (.exit id)) ⟨rfl, rfl⟩ hq2
   | goto l => exact hq2.elim
   | panic ch => exact hq2.elim
   | outgrown => exact hq2.elim
 | exit id => exact hq.elim
 | goto l => exact hq.elim
 | ret => exact hq.elim
 | panic ch => exact hq.elim
 | outgrown => exact hq.elim
def IterG {α : Type} (P : Program) (gf : FuncId) (cs : List Value) (F0 : Heap) (A : α → Heap → List Value → Prop) (xs : List α) : Prop :=
 ∀ (L : Nat) (J : List α → Heap → List (Nat × Obj) → Prop) (Jx : Heap → List (Nat × Obj) → Prop) (F : Heap) (H : List (Nat × Obj)), F0.le F →
   (∀ pre F F' H, F.le F' → J pre F H → J pre F' H) → (∀ F F' H, F.le F' → Jx F H → Jx F' H) →
   (∀ pre x rest F H vs, xs = pre ++ x :: rest → F0.le F → J pre F H → A x F vs → OkYG P L vs F H fun v F' H' => v = .bool true ∧ J (pre ++ [x]) F' H' ∨ v = .bool false ∧ Jx F' H') →
   J [] F H → OkG P gf (.func (.yield L) #[] #[] :: cs).toArray F H fun _ F' H' => J xs F' H' ∨ Jx F' H'
theorem JV {α : Type} {Q : Exit → Env → St → Prop} {g : Operand} {ps : List Tmp} {assign body : Code} {gf : FuncId} {cs : List Value} {F0 : Heap} {A : α → Heap → List Value → Prop} {xs : List α}
   (hro : B.ro = none) (hg : ev e g = .func (.func gf) #[] cs.toArray) (hb : Body P gf) (hit : IterG P gf cs F0 A xs) (hF : F0.le σ.F)
   (J : List α → Heap → List (Nat × Obj) → Prop) (Jx : Code → Heap → List (Nat × Obj) → Prop) (hm : ∀ pre F F' H, F.le F' → J pre F H → J pre F' H) (hmx : ∀ c F F' H, F.le F' → Jx c F H → Jx c F' H)
   (h0 : J [] σ.F σ.H)
   (hround : ∀ L D fn tm pre x rest G H1 vs, xs = pre ++ x :: rest → σ.F.le G → J pre G H1 → A x G vs → vs.length = ps.length ∧ (ps.zip vs).all (fun p => Nat.blt p.1 n) = true ∧
     ∀ w0, WC P n ⟨w0, L :: D :: keys H1, G, [], some L⟩ assign (thenE (fun e' σ' => ∃ H2, σ'.H = (L, loopO fn tm ps.toArray assign body D .ready none) :: H2 ∧
       WC P n ⟨w0, L :: D :: keys H1, G, [], some L⟩ body (RoundEG ⟨w0, L :: D :: keys H1, G, [], some L⟩ L (loopO fn tm ps.toArray assign body D) (RoundR σ.F L D (loopO fn tm ps.toArray assign body D) J Jx (pre ++ [x]))) e' ⟨σ'.F, (L, loopO fn tm ps.toArray assign body D .busy none) :: H2⟩) (fun _ _ _ => False))
     (updL e (ps.zip vs)) ⟨G, (L, loopO fn tm ps.toArray assign body D .ready none) :: (D, openO) :: H1⟩)
   (hx : ∀ c F' H1, σ.F.le F' → Jx c F' H1 → WC P n B c Q e ⟨F', H1⟩)
   (hn : ∀ F' H1, σ.F.le F' → J xs F' H1 → Q .normal e ⟨F', H1⟩) : WC P n B (.rangeFunc g ps.toArray assign body) Q e σ := by
 refine Hb hro hg hb (J xs) Jx (fun L D fn tm hsz htm => ?_) hx hn
 refine OkG.mono (hit L (fun pre F H => σ.F.le F ∧ ∃ H1, H = (L, loopO fn tm ps.toArray assign body D .ready none) :: (D, openO) :: H1 ∧ J pre F H1)
   (fun F H => σ.F.le F ∧ ∃ c H1, H = (L, loopO fn tm ps.toArray assign body D .done (some c)) :: (D, openO) :: H1 ∧ Jx c F H1) σ.F _ hF ?_ ?_ ?_ ⟨Heap.le_refl _, _, rfl, h0⟩) ?_
 · rintro pre F F' H hFF ⟨h1, H1, h2, h3⟩
   exact ⟨Heap.le_trans h1 hFF, H1, h2, hm _ _ _ _ hFF h3⟩
 · rintro F F' H hFF ⟨h1, c, H1, h2, h3⟩
   exact ⟨Heap.le_trans h1 hFF, c, H1, h2, hmx _ _ _ _ hFF h3⟩
 · rintro pre x rest G H vs hxs hG ⟨h1, H1, rfl, h3⟩ hA
   obtain ⟨q1, q2, q3⟩ := hround L D fn tm pre x rest G H1 vs hxs h1 h3 hA
   refine (Hu (R := RoundR σ.F L D (loopO fn tm ps.toArray assign body D) J Jx (pre ++ [x])) hsz htm q1 q2 q3).mono fun v F' H' _ hR => ?_
   rcases hR with ⟨rfl, H2, k1, k2, k3⟩ | ⟨rfl, c, H2, k1, k2, k3⟩
   · exact .inl ⟨rfl, k2, H2, k1, k3⟩
   exact .inr ⟨rfl, k2, c, H2, k1, k3⟩
 rintro v F' H' _ (⟨h1, H1, rfl, h3⟩ | ⟨h1, c, H1, rfl, h3⟩)
 · exact ⟨H1, .inl ⟨rfl, h3⟩⟩
 exact ⟨H1, .inr ⟨c, rfl, h3⟩⟩
theorem C3 {L D : Nat} {lo : LoopState → Option Code → Obj} {R : Value → Heap → List (Nat × Obj) → Prop} {H2 : List (Nat × Obj)} (hp : PickB σ.H ((L, lo .busy none) :: (D, openO) :: H2)) (hR : R (.bool true) σ.F ((L, lo .ready none) :: (D, openO) :: H2)) : RoundEG B L lo R .normal e σ :=
 ⟨σ.F, _, fun _ _ h => h.pickB hp, hR⟩
theorem TU {L D : Nat} {lo : LoopState → Option Code → Obj} {R : Value → Heap → List (Nat × Obj) → Prop} {H2 : List (Nat × Obj)} (hp : PickB σ.H ((L, lo .busy none) :: (D, openO) :: H2)) (hR : R (.bool false) σ.F ((L, lo .done (some .ret)) :: (D, openO) :: H2)) : RoundEG B L lo R .ret e σ :=
 ⟨σ.F, _, fun _ _ h => h.pickB hp, hR⟩
theorem Fr {ops : Array Oper} {Q : Exit → Env → St → Prop} {l : List Oper} {H' : List (Nat × Obj)} (hp : PickB σ.H H') (h : WL P n B ops Q l e ⟨σ.F, H'⟩) : WL P n B ops Q l e σ := Wd (fun _ hw => hw.pickB hp) h
theorem Jy {c : Code} {Q : Exit → Env → St → Prop} {i b : Nat} {o : Obj} {Hf : Obj → List (Nat × Obj)} (hi : σ.H[i]? = some (b, o)) (hH : ∀ oL, SetL σ.H i (b, oL) (Hf oL))
   (h : ∀ oL, oL = o → WC P n B c Q e ⟨σ.F, Hf oL⟩) : WC P n B c Q e σ := by
 have h1 := h o rfl
 have h2 : Hf o = σ.H := by
   rw [(hH o).eq.1]
   apply List.ext_getElem?
   intro j
   rw [List.getElem?_set]
   split
   · rename_i hj; subst hj
     split
     · exact hi.symm
     rename_i hn; exact absurd (List.getElem?_eq_some_iff.1 hi).1 hn
   rfl
 rw [h2] at h1
 exact h1
theorem Cell.joined {w : World} (hw : Holds B σ w) {a : Addr} {v : Value} (h : Cell σ a v) : Cell ⟨Go.Proofs.YtkjfmibiinfhfacGreat.joined σ, []⟩ a v := by
 obtain ⟨hs, c, T, fr, hc, hv⟩ := h
 refine ⟨hs, c, T, fr, ?_, hv⟩
 rcases hc with hc | hc
 · exact .inl (GG hw _ _ hc)
 exact .inl (Hz hw hc)
theorem Src.joined {w : World} (hw : Holds B σ w) {v : Value} {k s : Nat} {cs : List Value} (h : Src σ v k cs s) : Src ⟨Go.Proofs.YtkjfmibiinfhfacGreat.joined σ, []⟩ v k cs s := by
 obtain ⟨h1, h2, a, c, h3, h4, h5⟩ := h
 exact ⟨h1, h2, a, c, h3, h4, fun x hx => ⟨(h5 x hx).1, fun j u hj => ((h5 x hx).2 j u hj).joined hw⟩⟩
theorem P5 {T E s bytes : Nat} {x y : Operand} {z v u : Value} {k m : Nat} {cs news : List Value} {K : Value → St → Prop} {d : Option Nat} {gd : Option (Nat × Bool)} (hT : SliceT P T E s) (hE : ElemT P E s bytes z)
   (hx : ev e x = v) (hv : Src σ v k cs s) (hfull : ∃ a, v = .slice a k k) (hm : 0 < m) (hy : ev e y = u) (hsrc : Src σ u m news s) (hroom : (k + m) * bytes ≤ 140737488355328) (hk : k + m ≤ 9223372036854775807)
   (hn : ∀ v' R', Own E s v' (k + m) (cs ++ news) R' → (∀ p ∈ R', B.w0.heap.size ≤ p.1) → K v' ⟨σ.F, R' ++ σ.H⟩) :
   OpX P n B ⟨d, .call ⟨.builtin .append, #[x, y], #[T, T]⟩, ty, pos, af, gd⟩ e σ K := .run fun w hw => by
 have hw0 : Holds ⟨w, [], joined σ, [], none⟩ ⟨joined σ, []⟩ w := ⟨rfl, rfl, rfl, Nat.le_refl _, fun _ _ _ => rfl, Hy hw, (fun p hp => nomatch hp), List.nodup_nil, fun _ _ => rfl, Heap.le_refl _, (fun D hD => nomatch hD), List.nodup_nil⟩
 obtain ⟨v', w', R', e1, e2, e3⟩ := K5 (P := P) (ty := ty) (A := []) (C := []) hT hE hw0 (hv.joined hw) hfull hm (hsrc.joined hw) rfl hroom hk
 have hrun : (execOp (ev e) ⟨d, .call ⟨.builtin .append, #[x, y], #[T, T]⟩, ty, pos, af, gd⟩).run P w = .ok (.value v') w' := by
   simp [execOp, resolve, invoke, builtin, hx, hy, e1]
 simp only [List.nil_append, List.append_nil] at e2
 have hold : ∀ b, b < w.heap.size → w'.heap[b]? = w.heap[b]? := fun b hb => e2.old b hb (by simp)
 have hnew : ∀ p ∈ R', w.heap.size ≤ p.1 := fun p hp => (e2.own p hp).2.2.resolve_right (by simp)
 refine ⟨v', w', _, .inl hrun, ?_, hn v' R' e3 fun p hp => Nat.le_trans hw.size (hnew p hp)⟩
 refine ⟨e2.os.trans hw.os, e2.tape.trans hw.tape, e2.output.trans hw.output, Nat.le_trans hw.size e2.size, fun b hb hM => ?_, fun b o hb => ?_, fun p hp => ?_, ?_, hw.ext, hw.le, fun D hD => ?_, hw.dnodup⟩
 · rw [hold b (by have := hw.size; omega)]; exact hw.old b hb hM
 · have := hw.sub b o hb
   rw [hold b (Array.getElem?_eq_some_iff.1 this).1]; exact this
 · rcases List.mem_append.1 hp with hp | hp
   · obtain ⟨h1, h2, -⟩ := e2.own p hp
     refine ⟨h1, ?_, .inl (Nat.le_trans hw.size (hnew p hp))⟩
     cases hb : σ.F p.1 with
     | none => rfl
     | some o =>
       have := (Array.getElem?_eq_some_iff.1 (hw.sub _ _ hb)).1
       have := hnew p hp
       omega
   obtain ⟨h1, h2, h3⟩ := hw.own p hp
   exact ⟨by rw [hold _ (hw.lt hp)]; exact h1, h2, h3⟩
 · rw [List.map_append, List.nodup_append]
   refine ⟨e2.nodup, hw.nodup, fun a ha b hb he => ?_⟩
   obtain ⟨p, hp, rfl⟩ := List.mem_map.1 ha
   obtain ⟨q, hq, rfl⟩ := List.mem_map.1 hb
   have h1 := hnew p hp
   have h2 := hw.lt hq
   omega
 obtain ⟨h1, h2, h3, h4⟩ := hw.marks D hD
 have hlt := (Array.getElem?_eq_some_iff.1 h1).1
 refine ⟨by rw [hold _ hlt]; exact h1, h2, h3, fun hm => ?_⟩
 rw [List.map_append] at hm
 rcases List.mem_append.1 hm with hm | hm
 · obtain ⟨p, hp, he⟩ := List.mem_map.1 hm
   have := hnew p hp
   omega
 exact h4 hm
theorem Holds.freezeF {w : World} (hw : Holds B σ w) {E s k : Nat} {v : Value} {cs : List Value} {R C : List (Nat × Obj)} (hfr : ∀ p ∈ R, B.w0.heap.size ≤ p.1) (hown : Own E s v k cs R) (hH : σ.H = R ++ C) :
   ∃ F', σ.F.le F' ∧ (∀ p ∈ R, F' p.1 = some p.2) ∧ Holds B ⟨F', C⟩ w := by
 match R, hown with
 | [], _ =>
   have hs : σ = ⟨σ.F, C⟩ := by cases σ with | mk F H => simp only at hH; rw [hH]; simp
   exact ⟨σ.F, Heap.le_refl _, by simp, by rw [← hs]; exact hw⟩
 | [(b, o)], _ =>
   have hi : σ.H[0]? = some (b, o) := by rw [hH]; simp
   have hm := hw.own _ (List.mem_of_getElem? hi)
   have hfz := hw.freeze hi (hfr (b, o) (by simp))
   have herase : σ.H.eraseIdx 0 = C := by rw [hH]; simp
   rw [herase] at hfz
   exact ⟨_, DW hm.2.1, fun p hp => by simp at hp; subst hp; exact Dn, hfz⟩
theorem Q8 {ops : Array Oper} {Q : Exit → Env → St → Prop} {σS : St} {ts : List Nat} {fuel : Nat} {listed : Array Bool} {E s k : Nat} {v : Value} {cs : List Value} {R C : List (Nat × Obj)} (hfr : ∀ p ∈ R, B.w0.heap.size ≤ p.1) (hown : Own E s v k cs R) (hH : σ.H = R ++ C)
   (h : ∀ F', σ.F.le F' → (∀ p ∈ R, F' p.1 = some p.2) → WX P n B ops Q σS ts fuel listed e ⟨F', C⟩) : WX P n B ops Q σS ts fuel listed e σ := fun h1 h2 a w ha hw => by
 obtain ⟨F', k1, k2, k3⟩ := hw.freezeF hfr hown hH
 exact h F' k1 k2 h1 h2 a w ha k3
end
end
section
open Go.RowKit
def canB (r : Room) (l : List Nat) : Bool := (allR r l).isSome
variable {r : Room} {l : List Nat} {x : Int} {q : Nat}
end
section
open Go.RowKit
theorem RoomR.ones {F : Heap} {vb vr vs vq : Value} {r : Room} (h : RoomR F vb vr vs vq r) : ∀ u ∈ [vb, vr, vs, vq], u.oneCell' = true := by
 intro u hu
 simp only [List.mem_cons, List.not_mem_nil, or_false] at hu
 rcases hu with rfl | rfl | rfl | rfl
 · exact h.books.plain.one
 · exact h.readers.plain.one
 · exact h.seats.plain.one
 exact h.reqs.plain.one
section
variable {P : Program} {n : Nat} {B : Base} {e : Env} {σ : St}
end
end
section
open Go.RowKit
@[reducible] def slE (p : Value × List Nat) : List Value := [p.1]
def Lsts (F : Heap) (v : Value) (ls : List (List Nat)) : Prop := ∃ ps : List (Value × List Nat), Sl F v 1 slE ps ∧ (∀ p ∈ ps, Nats F p.1 p.2) ∧ ps.map (·.2) = ls
theorem Lsts.mono {F F' : Heap} {v : Value} {ls : List (List Nat)} (h : Lsts F v ls) (hF : F.le F') : Lsts F' v ls := by
 obtain ⟨ps, h1, h2, h3⟩ := h
 exact ⟨ps, h1.mono hF, fun p hp => (h2 p hp).mono hF, h3⟩
def AllN (F : Heap) (ps : List (Value × List Nat)) : Prop := ∀ p ∈ ps, Nats F p.1 p.2
theorem AllN.mono {F F' : Heap} {ps : List (Value × List Nat)} (h : AllN F ps) (hF : F.le F') : AllN F' ps := fun p hp => (h p hp).mono hF
def listsR : Nat → Nat → Nat → List (List Nat)
 | 0, _, _ => [[]]
 | m + 1, lo, hi => (List.range' lo (hi - m - lo)).flatMap fun i => (listsR m (i + 1) hi).map (i :: ·)
def listsTo (m lo hi j : Nat) : List (List Nat) := (List.range' lo j).flatMap fun i => (listsR m (i + 1) hi).map (i :: ·)
theorem Jc {m lo hi j : Nat} : listsTo m lo hi (j + 1) = listsTo m lo hi j ++ (listsR m (lo + j + 1) hi).map ((lo + j) :: ·) := by
 unfold listsTo; rw [O3, List.flatMap_append]; simp
theorem M6 : ∀ {m lo hi : Nat} {p : List Nat}, p ∈ listsR m lo hi → p.length = m ∧ ∀ i ∈ p, lo ≤ i ∧ i < hi
 | 0, lo, hi, p, h => by
   simp [listsR] at h; subst h; simp
 | m + 1, lo, hi, p, h => by
   unfold listsR at h
   obtain ⟨i, hi1, h⟩ := List.mem_flatMap.1 h
   obtain ⟨s, hs, rfl⟩ := List.mem_map.1 h
   have ih := M6 hs
   rw [List.mem_range'_1] at hi1
   refine ⟨by simp [ih.1], fun x hx => ?_⟩
   rcases List.mem_cons.1 hx with rfl | hx
   · omega
   have := ih.2 x hx; omega
theorem Kq {hi : Nat} (hh : hi ≤ 8) : ∀ (m lo : Nat), (listsR m lo hi).length ≤ 8 ^ m
 | 0, lo => by simp [listsR]
 | m + 1, lo => by
   have ih := Kq hh m
   have key : ∀ j, (listsTo m lo hi j).length ≤ j * 8 ^ m := by
     intro j
     induction j with
     | zero => simp [listsTo]
     | succ j hj =>
       rw [Jc, List.length_append, List.length_map, Nat.add_mul]
       have := ih (lo + j + 1)
       omega
   have h1 := key (hi - m - lo)
   have h2 : (hi - m - lo) * 8 ^ m ≤ 8 * 8 ^ m := Nat.mul_le_mul_right _ (by omega)
   have h3 : 8 ^ (m + 1) = 8 * 8 ^ m := by rw [Nat.pow_succ, Nat.mul_comm]
   show (listsTo m lo hi (hi - m - lo)).length ≤ _
   omega
theorem ND {hi m lo : Nat} (hh : hi ≤ 8) (hm : m ≤ 8) : (listsR m lo hi).length ≤ 16777216 :=
 Nat.le_trans (Kq hh m lo) (Nat.pow_le_pow_right (n := 8) (by omega) hm)
def picked (l p : List Nat) : List Nat := p.map fun i => l[i]?.getD 0
variable {r : Room} {l : List Nat} {x : Int} {q : Nat}
end
section
open Go
def castL (l : List Nat) : List Int := l.map fun (n : Nat) => (n : Int)
theorem Jk {α β : Type} {f g : α → List β} : ∀ (l : List α), (∀ x ∈ l, f x = g x) → l.flatMap f = l.flatMap g
 | [], _ => rfl
 | x :: l, h => by rw [List.flatMap_cons, List.flatMap_cons, h x (by simp), Jk l fun y hy => h y (List.mem_cons_of_mem _ hy)]
def everyR (n : Nat) : List (List Nat) := [] :: (List.range' 2 (n - 1)).flatMap fun m => listsR m 0 n
def everyTo (n k : Nat) : List (List Nat) := (List.range k).flatMap fun m => if m = 1 then [] else listsR m 0 n
theorem Jm {n k : Nat} : everyTo n (k + 1) = everyTo n k ++ if k = 1 then [] else listsR k 0 n := by unfold everyTo; rw [List.range_succ, List.flatMap_append]; simp
theorem Pd {n : Nat} (hn : 1 ≤ n) : everyTo n (n + 1) = everyR n := by
 obtain ⟨k, rfl⟩ : ∃ k, n = k + 1 := ⟨n - 1, by omega⟩
 unfold everyTo everyR
 rw [List.range_eq_range', show k + 1 + 1 = 2 + k by omega, ← List.range'_append_1]
 rw [List.flatMap_append]
 simp only [show List.range' 0 2 = [0, 1] from rfl, List.flatMap_cons, List.flatMap_nil, Nat.zero_add]
 simp only [listsR, if_true, List.append_nil]
 rw [if_neg (by omega)]
 show [[]] ++ _ = _
 rw [show k + 1 - 1 = k by omega]
 rw [List.cons_append, List.nil_append]
 congr 1
 refine Jk _ fun m hm => ?_
 have := (List.mem_range'_1.1 hm).1
 rw [if_neg (by omega)]
theorem NM : everyTo 0 1 = everyR 0 := by simp [everyTo, everyR, listsR]
theorem EP {n : Nat} : everyTo n (n + 1) = everyR n := by
 cases n with
 | zero => exact NM
 | succ n => exact Pd (by omega)
theorem Qb : ∀ {m lo hi : Nat}, 0 < m → hi < lo + m → listsR m lo hi = []
 | 0, _, _, h, _ => absurd h (by omega)
 | m + 1, lo, hi, _, h => by
   unfold listsR
   rw [show hi - m - lo = 0 by omega]; rfl
theorem Kr {m lo hi : Nat} : listsTo m lo hi (hi - lo) = listsR (m + 1) lo hi := by
 unfold listsTo
 show _ = (List.range' lo (hi - m - lo)).flatMap _
 by_cases h : hi - m - lo = hi - lo
 · rw [h]
 have h1 : hi - lo = (hi - m - lo) + (hi - lo - (hi - m - lo)) := by omega
 rw [h1, ← List.range'_append_1, List.flatMap_append]
 have h2 : (List.range' (lo + (hi - m - lo)) (hi - lo - (hi - m - lo))).flatMap (fun i => (listsR m (i + 1) hi).map (i :: ·)) = [] := by
   rw [List.flatMap_eq_nil_iff]
   intro i hi'
   have := List.mem_range'_1.1 hi'
   rw [Qb (by omega) (by omega)]; rfl
 rw [h2, List.append_nil]
theorem Mh {m lo hi j : Nat} (hj : j < hi - lo) : ∃ rest, listsR (m + 1) lo hi = listsTo m lo hi j ++ (listsR m (lo + j + 1) hi).map ((lo + j) :: ·) ++ rest := by
 rw [← Kr]
 unfold listsTo
 rw [show hi - lo = j + (hi - lo - j) by omega, ← List.range'_append_1, List.flatMap_append]
 obtain ⟨r, hr⟩ : ∃ r, hi - lo - j = r + 1 := ⟨hi - lo - j - 1, by omega⟩
 rw [hr, List.range'_succ, List.flatMap_cons]
 exact ⟨_, (List.append_assoc _ _ _).symm⟩
theorem Qn {n : Nat} {l : List Nat} (h : l ∈ everyR n) : (∀ b ∈ l, b < n) ∧ l.length ≠ 1 ∧ l.length ≤ n := by
 unfold everyR at h
 rcases List.mem_cons.1 h with rfl | h
 · simp
 obtain ⟨m, hm, hl⟩ := List.mem_flatMap.1 h
 have hm := List.mem_range'_1.1 hm
 obtain ⟨h1, h2⟩ := M6 hl
 exact ⟨fun b hb => (h2 b hb).2, by omega, by omega⟩
theorem Gl {α β : Type} {f : α → List β} {c : Nat} : ∀ (l : List α), (∀ x ∈ l, (f x).length ≤ c) → (l.flatMap f).length ≤ l.length * c
 | [], _ => by simp
 | x :: l, h => by
   rw [List.flatMap_cons, List.length_append, List.length_cons, Nat.add_mul]
   have h1 := h x (by simp)
   have h2 := Gl l fun y hy => h y (List.mem_cons_of_mem _ hy)
   omega
theorem GW {n k : Nat} (hn : n ≤ 6) (hk : k ≤ 8) : (everyTo n k).length ≤ 134217728 := by
 have := Gl (f := fun m => if m = 1 then [] else listsR m 0 n) (c := 16777216) (List.range k) fun m hm => by
   have hm : m < k := by simpa using hm
   split
   · simp
   exact ND (by omega) (by omega)
 unfold everyTo
 rw [List.length_range] at this
 have : k * 16777216 ≤ 8 * 16777216 := Nat.mul_le_mul_right _ hk
 omega
def rightE (x : Ent) (r : Res) : Bool := (x.sold == decide (r.bidder ≠ -1)) && (!x.sold || (decide (x.lo ≤ r.price) && decide (r.price ≤ x.hi)))
def entErr (s : Sale) (l : List Ent) (i : Nat) : Int := match l[i]? with
 | none => 0
 | some x => if inB 0 (s.lots.length - 1) x.lot = false then 4 else if (0 < i ∧ x.lot ≤ ((l[i - 1]?).map (·.lot)).getD 0) ∨ (x.sold = false ∧ ¬ (x.lo = 0 ∧ x.hi = 0)) then 2 else rangeE x.lo x.hi 0 100000
theorem DK {s : Sale} {l : List Ent} {k : Nat} (h : k < l.length) : entErr s l k = if inB 0 (s.lots.length - 1) l[k].lot = false then 4 else if (0 < k ∧ l[k].lot ≤ ((l[k - 1]?).map (·.lot)).getD 0) ∨ (l[k].sold = false ∧ ¬ (l[k].lo = 0 ∧ l[k].hi = 0)) then 2 else rangeE l[k].lo l[k].hi 0 100000 := by
 unfold entErr; rw [List.getElem?_eq_getElem h]
def catE (s : Sale) (l : List Ent) : Int := match firstBad l.length (entErr s l) with
 | none => 0
 | some i => entErr s l i
theorem Na {s : Sale} {l : List Ent} (h : catE s l = 0) : ∀ j, j < l.length → entErr s l j = 0 := by
 unfold catE at h
 cases hf : firstBad l.length (entErr s l) with
 | none => exact EO hf
 | some i =>
   rw [hf] at h
   unfold firstBad at hf
   have := List.find?_some hf
   simp at this
   exact absurd h this
def askedE (s : Sale) (l : List Ent) : Int := if (checkS s).2.2 ≠ 0 then (checkS s).2.2 else catE s l
theorem LY {s : Sale} {l : List Ent} (h : (checkS s).2.2 ≠ 0) : askedE s l = (checkS s).2.2 := if_pos h
theorem HB {s : Sale} {l : List Ent} (h : (checkS s).2.2 = 0) : askedE s l = catE s l := if_neg (fun k => k h)
theorem Eu {s : Sale} {l : List Ent} (h : askedE s l = 0) : (checkS s).2.2 = 0 ∧ catE s l = 0 := by
 by_cases h0 : (checkS s).2.2 = 0
 · rw [HB h0] at h; exact ⟨h0, h⟩
 rw [LY h0] at h; exact absurd h h0
theorem KL {s : Sale} {l : List Ent} (h : catE s l = 0) {k : Nat} (hk : k < l.length) : ∃ n : Nat, l[k].lot = (n : Int) ∧ n < s.lots.length := by
 have := Na h k hk
 rw [DK hk] at this
 split at this
 · cases this
 rename_i h1
 exact QY (by simpa only [Bool.not_eq_false] using h1)
theorem ent_asc {s : Sale} {l : List Ent} (h : catE s l = 0) {k : Nat} (hk : k < l.length) (h0 : 0 < k) : (l[k - 1]'(by omega)).lot < l[k].lot := by
 have := Na h k hk
 rw [DK hk] at this
 split at this
 · cases this
 split at this
 · cases this
 rename_i h2
 rw [List.getElem?_eq_getElem (show k - 1 < l.length by omega)] at h2
 simp only [Option.map_some, Option.getD_some] at h2
 by_cases h3 : l[k].lot ≤ (l[k - 1]'(by omega)).lot
 · exact absurd (.inl ⟨h0, h3⟩) h2
 omega
theorem ent_len {s : Sale} (hv : ValidS s) {l : List Ent} (h : catE s l = 0) : l.length ≤ 6 := by
 have key : ∀ k (hk : k < l.length), (k : Int) ≤ l[k].lot := by
   intro k
   induction k with
   | zero =>
     intro hk
     obtain ⟨n, hn, -⟩ := KL h hk
     omega
   | succ k ih =>
     intro hk
     have h2 := ih (by omega)
     have h3 := ent_asc h hk (by omega)
     simp only [Nat.add_sub_cancel] at h3
     omega
 have hnl := hv.nl
 rcases Nat.eq_zero_or_pos l.length with h0 | h0
 · omega
 have h2 := key (l.length - 1) (by omega)
 obtain ⟨n, h3, h4⟩ := KL h (k := l.length - 1) (by omega)
 omega
def entRes (s : Sale) (x : Ent) (ring : List Nat) : Res := soldS s x.lot.toNat (castL ring)
def rightS (s : Sale) (l : List Ent) (but : List Nat) (ring : List Nat) : Bool := (List.range l.length).all fun i => decide (i ∈ but) || rightE (l[i]?.getD ⟨0, false, 0, 0⟩) (entRes s (l[i]?.getD ⟨0, false, 0, 0⟩) ring)
theorem O1 {s : Sale} {l : List Ent} {but ring : List Nat} (h : ∀ i (hi : i < l.length), i ∈ but ∨ rightE l[i] (entRes s l[i] ring) = true) : rightS s l but ring = true := by
 unfold rightS
 rw [List.all_eq_true]
 intro i hi
 have hi : i < l.length := by simpa using hi
 rw [List.getElem?_eq_getElem hi]
 simpa using h i hi
theorem Nz {s : Sale} {l : List Ent} {but ring : List Nat} {i : Nat} (hi : i < l.length) (h1 : i ∉ but) (h2 : rightE l[i] (entRes s l[i] ring) = false) : rightS s l but ring = false := by
 unfold rightS
 rw [List.all_eq_false]
 exact ⟨i, by simpa using hi, by rw [List.getElem?_eq_getElem hi]; simp [h1, h2]⟩
def fitS (s : Sale) (l : List Ent) (but : List Nat) : List (List Nat) := (everyR s.bidders.length).filter (rightS s l but)
def ringsE (s : Sale) (l : List Ent) : List (List Nat) × Int := if askedE s l ≠ 0 then ([], askedE s l) else if fitS s l [] = [] then ([], 8) else (fitS s l [], 0)
theorem KZ {s : Sale} {l : List Ent} {e : Int} (h : askedE s l = e) (he : e ≠ 0) : ringsE s l = ([], e) := by subst h; exact if_pos he
theorem Oz {s : Sale} {l : List Ent} (h : askedE s l = 0) (h2 : fitS s l [] = []) : ringsE s l = ([], 8) := by unfold ringsE; rw [if_neg (fun k => k h), if_pos h2]
theorem Sd {s : Sale} {l : List Ent} (h : askedE s l = 0) (h2 : fitS s l [] ≠ []) : ringsE s l = (fitS s l [], 0) := by unfold ringsE; rw [if_neg (fun k => k h), if_neg h2]
def LstsR (F : Heap) (u : Value) (p : List (List Nat) × Int) : Prop := ∃ v, u = .tuple #[v, .int .i64 p.2] ∧ Lsts F v p.1
theorem LstsR.mono {F F' : Heap} {u : Value} {p : List (List Nat) × Int} (h : LstsR F u p) (hF : F.le F') : LstsR F' u p := by obtain ⟨v, h1, h2⟩ := h; exact ⟨v, h1, h2.mono hF⟩
def manyTo (all : List (List Nat)) (b : Nat) (k : Nat) : Int := (((all.take k).filter fun l => decide (b ∈ l)).length : Int)
theorem Ko {all : List (List Nat)} {b k : Nat} (hk : k < all.length) : manyTo all b (k + 1) = if b ∈ all[k] then manyTo all b k + 1 else manyTo all b k := by
 unfold manyTo
 rw [List.take_succ_eq_append_getElem hk, List.filter_append, List.length_append]
 by_cases h : b ∈ all[k]
 · rw [if_pos h]; simp [h]
 rw [if_neg h]; simp [h]
theorem NC {all : List (List Nat)} {b k : Nat} : 0 ≤ manyTo all b k ∧ manyTo all b k ≤ all.length := by
 unfold manyTo
 have h1 := List.length_filter_le (fun l => decide (b ∈ l)) (all.take k)
 rw [List.length_take] at h1
 omega
def manyOf (all : List (List Nat)) (b : Nat) : Int := manyTo all b all.length
def mustB (all : List (List Nat)) (b : Nat) : Bool := decide (manyOf all b = all.length)
def mayB (all : List (List Nat)) (b : Nat) : Bool := decide (0 < manyOf all b)
def selTo (p : Nat → Bool) (k : Nat) : List Nat := (List.range k).filter p
theorem C6 {p : Nat → Bool} {k : Nat} : selTo p (k + 1) = if p k = true then selTo p k ++ [k] else selTo p k := by
 unfold selTo; rw [List.range_succ, List.filter_append]
 by_cases h : p k = true
 · rw [if_pos h]; simp [h]
 rw [if_neg h]; simp [h]
theorem Ei {p : Nat → Bool} {k : Nat} : (selTo p k).length ≤ k := Nat.le_trans (List.length_filter_le _ _) (by simp)
abbrev Mem := List Nat × List Nat × Int
def membersE (s : Sale) (l : List Ent) : Mem := if (ringsE s l).2 ≠ 0 then ([], [], (ringsE s l).2) else (selTo (mustB (ringsE s l).1) s.bidders.length, selTo (mayB (ringsE s l).1) s.bidders.length, 0)
theorem NA {s : Sale} {l : List Ent} (h : (ringsE s l).2 ≠ 0) : membersE s l = ([], [], (ringsE s l).2) := if_pos h
theorem OJ {s : Sale} {l : List Ent} (h : (ringsE s l).2 = 0) : membersE s l = (selTo (mustB (ringsE s l).1) s.bidders.length, selTo (mayB (ringsE s l).1) s.bidders.length, 0) := if_neg (fun k => k h)
def MemR (F : Heap) (u : Value) (p : Mem) : Prop := ∃ v w, u = .tuple #[v, w, .int .i64 p.2.2] ∧ Nats F v p.1 ∧ Nats F w p.2.1
theorem MemR.mono {F F' : Heap} {u : Value} {p : Mem} (h : MemR F u p) (hF : F.le F') : MemR F' u p := by obtain ⟨v, w, h1, h2, h3⟩ := h; exact ⟨v, w, h1, h2.mono hF, h3.mono hF⟩
end
section
set_option maxRecDepth 100000
open Go.RowKit
theorem VM : Body Tryz.prog 101 := AE (by kernel_rfl)
theorem GB : OneT Tryz.prog 107 := BE (by kernel_rfl)
instance : OneI Tryz.prog 107 := ⟨GB⟩
theorem N6 : OneT Tryz.prog 186 := BE (by kernel_rfl)
instance : OneI Tryz.prog 186 := ⟨N6⟩
theorem QP : OneT Tryz.prog 132 := BE (by kernel_rfl)
instance : OneI Tryz.prog 132 := ⟨QP⟩
structure NextC (L : Nat) (F : Heap) (b d3 d4 d5 d6 many : Nat) : Prop where
 many : F d3 = some (bx 3 [.int .i64 (many : Int)])
 yield : F d4 = some (bx 132 [.func (.yield L) #[] #[]])
 me : F d5 = some (bx 107 [.pointer (some ⟨b, 0, none⟩)])
 next : F d6 = some (bx 186 [.func (.func 101) #[] #[.pointer (some ⟨d3, 0, none⟩), .pointer (some ⟨d4, 0, none⟩), .pointer (some ⟨d5, 0, none⟩), .pointer (some ⟨d6, 0, none⟩)]])
theorem NextC.mono {L : Nat} {F F' : Heap} {b d3 d4 d5 d6 many : Nat} (h : NextC L F b d3 d4 d5 d6 many) (hF : F.le F') : NextC L F' b d3 d4 d5 d6 many := ⟨hF _ _ h.many, hF _ _ h.yield, hF _ _ h.me, hF _ _ h.next⟩
abbrev RingA (l : List Nat) (G : Heap) (vs : List Value) : Prop := ∃ (v : Value) (set : Nat), vs = [v, .int .i64 (set : Int)] ∧ Nats G v l ∧ set < 64 ∧ SetOf set (castL l)
def YieldOk (P : Program) (L : Nat) (F0 : Heap) (xs : List (List Nat)) (J : List (List Nat) → Heap → List (Nat × Obj) → Prop) (Jx : Heap → List (Nat × Obj) → Prop) : Prop :=
 ∀ pre x rest F H vs, xs = pre ++ x :: rest → F0.le F → J pre F H → RingA x F vs → OkYG P L vs F H fun v F' H' => v = .bool true ∧ J (pre ++ [x]) F' H' ∨ v = .bool false ∧ Jx F' H'
def NextOk (s : Sale) (L : Nat) (F0 : Heap) (xs : List (List Nat)) (J : List (List Nat) → Heap → List (Nat × Obj) → Prop) (Jx : Heap → List (Nat × Obj) → Prop) (vs vb vl vn vd : Value) (b kb d3 d4 d5 d6 many r : Nat) : Prop :=
 ∀ {F : Heap} {H : List (Nat × Obj)} {vr : Value} {ring : List Nat} {set from_ : Nat} {pre rest : List (List Nat)}, F0.le F → AucX 161 F b vs vb vl vn vd kb s → NextC L F b d3 d4 d5 d6 many → Nats F vr ring → ring.length + r = many → from_ ≤ s.bidders.length → set < 64 → SetOf set (castL ring) →
   xs = pre ++ (listsR r from_ s.bidders.length).map (ring ++ ·) ++ rest → J pre F H →
   OkG Tryz.prog 101 [vr, .int .i64 (set : Int), .int .i64 (from_ : Int), .pointer (some ⟨d3, 0, none⟩), .pointer (some ⟨d4, 0, none⟩), .pointer (some ⟨d5, 0, none⟩), .pointer (some ⟨d6, 0, none⟩)].toArray F H fun v F' H' => v = .bool true ∧ J (pre ++ (listsR r from_ s.bidders.length).map (ring ++ ·)) F' H' ∨ v = .bool false ∧ Jx F' H'
theorem NQ {l : List Nat} {k : Nat} : castL (l ++ [k]) = castL l ++ [(k : Int)] := by simp [castL]
theorem Lu {lo hi : Nat} {ring : List Nat} : (listsR 0 lo hi).map (ring ++ ·) = [ring] := by simp [listsR]
theorem NB {ring : List Nat} {k : Nat} (l : List (List Nat)) : (l.map (k :: ·)).map (ring ++ ·) = l.map ((ring ++ [k]) ++ ·) := by simp [List.map_map]
theorem Uv {s : Sale} (_hv : ValidS s) {L : Nat} {F0 : Heap} {xs : List (List Nat)} {J : List (List Nat) → Heap → List (Nat × Obj) → Prop} {Jx : Heap → List (Nat × Obj) → Prop} {vs vb vl vn vd : Value} {b kb d3 d4 d5 d6 many : Nat}
   (_hm : ∀ pre F F' H, F.le F' → J pre F H → J pre F' H) (_hmx : ∀ F F' H, F.le F' → Jx F H → Jx F' H) (hy : YieldOk Tryz.prog L F0 xs J Jx) (_hmany : many ≤ 6) : NextOk s L F0 xs J Jx vs vb vl vn vd b kb d3 d4 d5 d6 many 0 := by
 intro F RH vr ring set from_ pre rest hF hX hC hl hlen hfrom hset hsof hxs hJ
 refine OkG.intro Tryz.func101 rfl Tryz.ntmps101 rfl fun w0 => ?_
 have hlen9 := hl.plain.lt
 refine AD (Af 1) <| Ac <| Az (Af 1) fun ds => Ag rfl (A4 A9 Aa hl.plain) <| Ag rfl (Ak AF Aa (AA hC.many rfl)) <| Aw (Af 1) <| Ai Aa (dT (by omega)) <| Ac <| DN fun ds => Du rfl rfl (Ak QP Aa (AA hC.yield rfl)) <| Du rfl rfl (AI Aa) <| Du rfl rfl (AI Aa) <| P1 rfl Aa AW rfl (hy pre ring rest _ _ _ (by rw [hxs, Lu]; simp) hF hJ ⟨_, _, rfl, hl, hset, hsof⟩) fun v5 F6 RH9 hr7 hF8 => ?_
 have hyb := hr7
 refine Du rfl rfl (Bk Aa) <| JU <| Ab <| At <| Ax <| C1 rfl Bd .all ?_
 rw [Lu]
 exact hyb
theorem Sx {s : Sale} (hv : ValidS s) {L : Nat} {F0 : Heap} {xs : List (List Nat)} {J : List (List Nat) → Heap → List (Nat × Obj) → Prop} {Jx : Heap → List (Nat × Obj) → Prop} {vs vb vl vn vd : Value} {b kb d3 d4 d5 d6 many : Nat}
   (hm : ∀ pre F F' H, F.le F' → J pre F H → J pre F' H) (_hmx : ∀ F F' H, F.le F' → Jx F H → Jx F' H) (_hy : YieldOk Tryz.prog L F0 xs J Jx) (hmany : many ≤ 6) {r : Nat} (ih : NextOk s L F0 xs J Jx vs vb vl vn vd b kb d3 d4 d5 d6 many r) : NextOk s L F0 xs J Jx vs vb vl vn vd b kb d3 d4 d5 d6 many (r + 1) := by
 intro F RH vr ring set from_ pre rest hF hX hC hl hlen hfrom hset hsof hxs hJ
 refine OkG.intro Tryz.func101 rfl Tryz.ntmps101 rfl fun w0 => ?_
 have hlen9 := hl.plain.lt
 have hnb := hv.nb
 have hL2 := hX.sale.bidders.plain.lt
 refine AD (Af 1) <| Ac <| Az (Af 1) fun ds => Ag rfl (A4 A9 Aa hl.plain) <| Ag rfl (Ak AF Aa (AA hC.many rfl)) <| Aw (Af 1) <| Ad Aa (dF (by omega)) <| Al <| Ab <| Ac <| AD (Af 2) <| Aq ?_
 refine AL [10, 11, 21, 22, 23, 24, 25, 26, 27, 28, 29, 30, 31, 32, 33, 34, 35, 36, 37, 38, 39, 40, 41, 42, 43, 44, 45, 46, 47, 48] (fun m e σ => ∃ G RH', F0.le G ∧ F.le G ∧ ∃ j : Nat, m + j = s.bidders.length - from_ ∧ Fct e 11 (.int .i64 ((from_ + j : Nat) : Int)) ∧ J (pre ++ (listsTo r from_ s.bidders.length j).map (ring ++ ·)) G RH' ∧ σ = ⟨G, RH'⟩) (s.bidders.length - from_) ?_ ?_
 · exact ⟨_, _, hF, Heap.le_refl _, 0, by omega, AX, by simpa [listsTo] using hJ, rfl⟩
 rintro m e _ ⟨G, RH', hG, hFG, j, hm1, hs11, hJ, rfl⟩; replace hX := hX.mono hFG; replace hC := hC.mono hFG; replace hl := hl.mono hFG
 by_cases hlt : from_ + j < s.bidders.length
 ·refine Ac <| Az (Af 1) fun ds => Ag rfl (Ak GB Aa (AA hC.me rfl)) <| Ag rfl (Bb Aa) <| Aj (Af 2) <| Ag rfl (Ak Cd Aa (AA hX.blk rfl)) <| Ag rfl (A4 BB Aa hX.sale.bidders.plain) <| Aw (Af 1) <| Ai Aa (by first | rfl | exact dT (by omega)) ?_
  have hb6 : from_ + j < 6 := by omega
  have hbp := Lh hb6
  obtain ⟨rest1, hsp⟩ := Mh (m := r) (lo := from_) (hi := s.bidders.length) (j := j) (by omega)
  refine Al <| Ab <| Ac <| Aq <| Ac <| BO (.inl rfl) (fun _ _ h => h) (List.nil_sublist _) [16, 17] (by kernel_rfl) fun ds => Au 0 rfl (List.nil_sublist _) (Ak N6 Aa (AA hC.next rfl)) <| Au 1 rfl (List.nil_sublist _) (AI Aa) <| Au 2 rfl (List.nil_sublist _) (AI Aa) <| Au 3 rfl (List.nil_sublist _) (A4 A9 Aa hl.plain) <| Au 4 rfl (List.nil_sublist _) (AI Aa) <| Au 5 rfl (List.nil_sublist _) (A4 A9 Aa hl.plain) <| Au 6 rfl (List.nil_sublist _) (Ud A9 Aa hl.plain Aa rfl Aa rfl) <| Au 7 rfl (List.nil_sublist _) (AI Aa) ?_
  refine Au 10 rfl (List.nil_sublist _) (AI Aa) <| Au 11 rfl (List.nil_sublist _) (AI Aa) <| Au 12 rfl (List.nil_sublist _) (Lg Aa Aa (k := from_ + j) rfl (by omega) (show (1 : Int) * 2 ^ (from_ + j) = ((2 ^ (from_ + j) : Nat) : Int) by simp) (Int.le_trans (by decide) (Int.natCast_nonneg _)) (by omega)) <| Au 13 rfl (List.nil_sublist _) (PH Aa Aa (m := set) (k := 2 ^ (from_ + j)) rfl rfl (by omega) (by omega) rfl) <| Au 14 rfl (List.nil_sublist _) (AI Aa) <| Au 15 rfl (List.nil_sublist _) (AG Aa Aa (show ((from_ + j : Nat) : Int) + 1 = ((from_ + j + 1 : Nat) : Int) by omega) (by omega) (by omega)) ?_
  refine BU 8 rfl (by kernel_rfl) rfl (AM A9 B2 rfl (.cons Aa .nil) rfl rfl (by decide) (by simp [Value.oneCell']) fun b2 hb2 nb2 => ⟨fun _ _ => (fun _ h => h.drop (List.nil_sublist _)), ?_⟩)
  refine BU 9 rfl (by kernel_rfl) rfl (P5 A9 Di Aa (hl.clip.src (fun _ => rfl) OH) (SV hl.plain) (by decide) Aa (B1 (s := 1) 0 rfl rfl (by simp [Value.oneCell'])) (by omega) (by omega) fun v3 R4 ho5 hfr => ⟨fun _ _ => (fun _ h => h.drop (List.nil_sublist _)), ?_⟩)
  have ho2 := ho5.snoc (x := from_ + j) rfl rfl
  refine Q8 hfr ho2 rfl fun F6 hF7 hz8 => ?_
  replace hX := hX.mono hF7
  replace hC := hC.mono hF7
  replace hG := Heap.le_trans hG hF7
  replace hFG := Heap.le_trans hFG hF7
  replace hJ := hm _ _ _ _ hF7 hJ
  have hn2 := ho2.sl (fun _ => rfl) hz8 (by simp only [List.length_append, List.length_singleton]; omega)
  refine Tp (.lastb (.next <| .last)) ?_
  refine BU 16 rfl (by kernel_rfl) rfl (EI VM Aa AW rfl (ih (pre := pre ++ (listsTo r from_ s.bidders.length j).map (ring ++ ·)) (rest := rest1.map (ring ++ ·) ++ rest) hG hX hC hn2 (by simp only [List.length_append, List.length_singleton]; omega) (by omega) (FB hset hb6) (by rw [NQ]; exact Gh hsof) (by rw [hxs, hsp]; simp) hJ) fun v9 F10 H13 hr11 hF12 => ⟨(fun h => nomatch h), ?_⟩)
  replace hl := hl.mono (Heap.le_trans hF7 hF12)
  replace hG := Heap.le_trans hG hF12
  replace hFG := Heap.le_trans hFG hF12
  replace hJ := hm _ _ _ _ hF12 hJ
  obtain ⟨yb, rfl, hyb⟩ := He hr11
  refine BU 17 rfl (by kernel_rfl) rfl (Be (O4 Aa).quiet ⟨(fun h => nomatch h), ?_⟩)
  refine BC (by kernel_rfl) ?_ _
  refine Ab ?_
  rcases hyb with ⟨rfl, hJ2⟩ | ⟨rfl, hJx⟩
  ·refine Ad Aa rfl <| Al <| A0 <| Ab <| Am fun ds => Aj (Af 1) <| Ag rfl (AG Aa Aa (show ((from_ + j : Nat) : Int) + 1 = ((from_ + (j + 1) : Nat) : Int) by omega) (by omega) (by omega)) <| Aj (Af 1) <| Ao ?_
   refine Ab ⟨_, m - 1, Off.eq (B3 rfl <| BR rfl <| Ca rfl <| BX rfl <| A2), by omega, ?_⟩
   refine ⟨_, _, hG, hFG, j + 1, by omega, Cr (by congr 1), ?_, rfl⟩
   rw [Jc, List.map_append, NB, ← List.append_assoc]; exact hJ2
  refine Ai Aa rfl <| AD (Af 1) <| At ?_
  refine A7 (Ax (Ax (A7 (Ax ?_))))
  refine C1 rfl Bd .all ?_
  exact .inr ⟨rfl, hJx⟩
 refine Ac <| Az (Af 1) fun ds => Ag rfl (Ak GB Aa (AA hC.me rfl)) <| Ag rfl (Bb Aa) <| Aj (Af 2) <| Ag rfl (Ak Cd Aa (AA hX.blk rfl)) <| Ag rfl (A4 BB Aa hX.sale.bidders.plain) <| Aw (Af 1) <| Ad Aa (by first | rfl | exact dF (by omega)) ?_
 obtain rfl : j = s.bidders.length - from_ := by omega
 refine AH ?_
 refine A8 <| A8 <| AB <| Ab <| AD (Af 1) <| At <| C1 rfl Bd .all ?_
 rw [← Kr]
 exact .inl ⟨rfl, hJ⟩
end
section
set_option maxRecDepth 100000
open Go.RowKit
theorem zr_186 : ZeroT Tryz.prog 186 (.nilFunc) := Br (by kernel_rfl)
instance : FieldI Tryz.prog 95 1 1 := ⟨AU (by kernel_rfl)⟩
instance : FieldI Tryz.prog 95 2 2 := ⟨AU (by kernel_rfl)⟩
theorem sz_186 : SizeT Tryz.prog 186 1 := Bx (by kernel_rfl)
theorem OF {s : Sale} (hv : ValidS s) {L : Nat} {F0 : Heap} {xs : List (List Nat)} {J : List (List Nat) → Heap → List (Nat × Obj) → Prop} {Jx : Heap → List (Nat × Obj) → Prop} {vs vb vl vn vd : Value} {b kb d3 d4 d5 d6 many : Nat}
   (hm : ∀ pre F F' H, F.le F' → J pre F H → J pre F' H) (hmx : ∀ F F' H, F.le F' → Jx F H → Jx F' H) (hy : YieldOk Tryz.prog L F0 xs J Jx) (hmany : many ≤ 6) : ∀ r, NextOk s L F0 xs J Jx vs vb vl vn vd b kb d3 d4 d5 d6 many r
 | 0 => Uv hv hm hmx hy hmany
 | r + 1 => Sx hv hm hmx hy hmany (OF hv hm hmx hy hmany r)
theorem Mi {n k : Nat} (hk : k ≤ n) (h1 : k ≠ 1) : ∃ rest, everyR n = everyTo n k ++ (listsR k 0 n).map (([] : List Nat) ++ ·) ++ rest := by
 rw [← EP]
 unfold everyTo
 rw [List.range_eq_range', show n + 1 = k + (n - k + 1) by omega, ← List.range'_append_1, List.flatMap_append, List.range'_succ, List.flatMap_cons, Nat.zero_add, if_neg h1, ← List.range_eq_range']
 exact ⟨(List.range' (k + 1) (n - k)).flatMap fun m => if m = 1 then [] else listsR m 0 n, by simp⟩
theorem RS : SetOf 0 (castL []) := fun t => by simp [castL]
theorem Kj {F0 : Heap} {b kb : Nat} {vs vb vl vn vd : Value} {s : Sale} (hX0 : AucX 161 F0 b vs vb vl vn vd kb s) (hv : ValidS s) {d5 : Nat} (z5 : F0 d5 = some (bx 107 [.pointer (some ⟨b, 0, none⟩)])) : IterG Tryz.prog 100 [.pointer (some ⟨d5, 0, none⟩)] F0 RingA (everyR s.bidders.length) := by
 intro L J Jx F RH hF hm hmx hy h0
 have hX := hX0.mono hF
 replace z5 := hF _ _ z5
 refine OkG.intro Tryz.func100 rfl Tryz.ntmps100 rfl fun w0 => ?_
 have hL1 := hX.sale.bidders.plain.lt
 have hnb := hv.nb
 refine Ac <| Am fun ds => A5 rfl <| Bg Aa rfl fun b1 hb1 nb1 => Ao <| Ab <| Ac <| AK (i := 0) rfl hb1 (.here) fun F2 hF3 hz2 => ?_
 replace hX := hX.mono hF3
 replace h0 := hm _ _ _ _ hF3 h0
 replace hF := Heap.le_trans hF hF3
 replace z5 := hF3 _ _ z5
 refine Am fun ds => Ag rfl (Ak GB Aa (AA z5 rfl)) <| Ag rfl (Bb Aa) <| Aj (Af 2) <| Ag rfl (Ak Cd Aa (AA hX.blk rfl)) <| Ag rfl (A4 BB Aa hX.sale.bidders.plain) <| Ag rfl (AG Aa Aa rfl (by omega) (by omega)) <| Aw (Af 1) <| Aq ?_
 refine AL [3, 4, 12, 13, 14, 15, 16, 17, 18, 19, 20, 21] (fun m e σ => ∃ G RH', F0.le G ∧ F2.le G ∧ ∃ k : Nat, m + k = s.bidders.length + 1 ∧ Fct e 12 (.int .i64 (k : Int)) ∧ J (everyTo s.bidders.length k) G RH' ∧ σ = ⟨G, RH'⟩) (s.bidders.length + 1) ?_ ?_
 · exact ⟨_, _, hF, Heap.le_refl _, 0, by omega, AX, h0, rfl⟩
 rintro m e _ ⟨G, RH', hG, hFG, k, hm1, hs12, hJ, rfl⟩; replace hX := hX.mono hFG; replace z5 := hFG _ _ z5; replace hz2 := hFG _ _ hz2
 by_cases hlt : k < s.bidders.length + 1
 ·refine AD (Af 1) <| Ac <| Ai Aa (by first | rfl | exact dT (by omega)) ?_
  by_cases h1 : k = 1
  ·refine Al <| Ab <| Ac <| Aq <| Az (Af 1) fun ds => A5 rfl <| AO B2 rfl fun b5 hb5 nb5 => AS <| Bf DA Aa Aa (i := 0) rfl (.here) rfl (.here) <| Ao <| Ab <| Ac <| AD (Af 2) <| Ai Aa (dT (by omega)) <| AH <| A8 <| AB <| Ab <| Bn (fun _ _ h => h.drop (kD <| .refl _)) <| Am fun ds => Ag rfl (AG Aa Aa rfl (by omega) (by omega)) <| Aj (Af 1) <| Ao ?_
   refine Ab ⟨_, m - 1, Off.eq (Ca rfl <| BM rfl <| BX rfl <| A2), by omega, ?_⟩
   refine ⟨_, RH', hG, hFG, k + 1, by omega, AX, ?_, rfl⟩
   rw [Jm, if_pos h1, List.append_nil]; exact hJ
  obtain ⟨rest, hsp⟩ := Mi (n := s.bidders.length) (k := k) (by omega) h1
  refine Al <| Ab <| Ac <| Aq <| Az (Af 1) fun ds => A5 rfl <| AO B2 rfl fun b6 hb6 nb6 => AS <| Bf DA Aa Aa (i := 0) rfl (.here) rfl (.here) <| Ao <| Ab <| Ac <| AD (Af 2) <| Ad Aa (dF (by omega)) <| Al <| Ab <| Ac <| Am fun ds => A5 rfl <| AO zr_186 rfl fun b7 hb7 nb7 => Ao <| Ab <| Ac <| Am fun ds => Ag rfl (Bt AW) <| AS <| Bf sz_186 Aa Aa (i := 0) rfl (.here) rfl (.here) <| Ao <| Ab <| Ac <| AK (i := 1) rfl hb6 (.next <| .here) fun F8 hF9 hz3 => ?_
  replace hG := Heap.le_trans hG hF9
  replace hFG := Heap.le_trans hFG hF9
  replace hJ := hm _ _ _ _ hF9 hJ
  refine AK (i := 0) rfl hb7 (.here) fun F10 hF11 hz4 => ?_
  have hU59 := Heap.le_trans hF9 hF11
  replace hX := hX.mono hU59
  replace hG := Heap.le_trans hG hF11
  replace hFG := Heap.le_trans hFG hF11
  replace hJ := hm _ _ _ _ hF11 hJ
  replace z5 := hU59 _ _ z5
  replace hz2 := hU59 _ _ hz2
  replace hz3 := hF11 _ _ hz3
  refine Am fun ds => Ag rfl (Ak N6 Aa (AA hz4 rfl)) <| A5 rfl <| EI VM Aa AW rfl (OF hv hm hmx hy (b := b) (kb := kb) (many := k) (by omega) k (from_ := 0) (set := 0) (ring := []) hG hX ⟨hz3, hz2, z5, hz4⟩ (Sl.nil : Nats _ _ []) (by simp) (by omega) (by decide) RS hsp hJ) fun v16 F17 H20 hr18 hF19 => ?_
  replace hG := Heap.le_trans hG hF19
  replace hFG := Heap.le_trans hFG hF19
  replace hJ := hm _ _ _ _ hF19 hJ
  obtain ⟨yb, rfl, hyb⟩ := He hr18
  refine Aw (Af 1) ?_
  rcases hyb with ⟨rfl, hJ2⟩ | ⟨rfl, hJx⟩
  ·refine Ad Aa rfl <| Al <| A0 <| Ab <| Am fun ds => Ag rfl (AG Aa Aa rfl (by omega) (by omega)) <| Aj (Af 1) <| Ao ?_
   refine Ab ⟨_, m - 1, Off.eq (BR rfl <| Ca rfl <| A2), by omega, ?_⟩
   refine ⟨_, _, hG, hFG, k + 1, by omega, AX, ?_, rfl⟩
   rw [Jm, if_neg h1]; simpa using hJ2
  refine Ai Aa rfl <| At ?_
  refine A7 (Ax (Ax (A7 ?_)))
  refine C1 rfl .nil .all ?_
  exact .inr hJx
 refine AD (Af 1) <| Ac <| Ad Aa (by first | rfl | exact dF (by omega)) ?_
 obtain rfl : k = s.bidders.length + 1 := by omega
 rw [EP] at hJ
 refine AH ?_
 refine A8 <| A8 <| AB <| G9 rfl .nil .all ?_
 exact .inl hJ
theorem Oy {F : Heap} {b kb : Nat} {vs vb vl vn vd : Value} {s : Sale} (hX : AucX 161 F b vs vb vl vn vd kb s) (_hv : ValidS s)  : Ok Tryz.prog 71 [.pointer (some ⟨b, 0, none⟩)].toArray F fun u F' => ∃ d, u = .func (.func 100) #[] #[.pointer (some ⟨d, 0, none⟩)] ∧ F' d = some (bx 107 [.pointer (some ⟨b, 0, none⟩)]) := by
 refine Ok.intro Tryz.func71 rfl Tryz.ntmps71 rfl fun w0 => Ac <| Am fun ds => A5 rfl <| Bg Aa rfl fun b1 hb1 nb1 => Aw (Af 1) <| Ac <| AK (i := 0) rfl hb1 (.here) fun F2 hF3 hz => ?_
 refine Am fun ds => Ag rfl (Bt AW) <| Aw (Af 1) <| At <| Ap rfl Bd ?_
 exact ⟨_, rfl, hz⟩
theorem HU {F : Heap} (x : Ent) (r : Res) : Ok Tryz.prog 72 [.agg x.enc.toArray, .agg r.enc.toArray].toArray F fun u _ => u = .bool (rightE x r) := by
 refine Ok.intro Tryz.func72 rfl Tryz.ntmps72 rfl fun w0 => ?_
 by_cases h1 : x.sold = decide (r.bidder ≠ -1)
 ·refine Ac <| Am fun ds => A5 rfl <| Bg Aa rfl fun b1 hb1 nb1 => A5 rfl <| Bg Aa rfl fun b2 hb2 nb2 => Aw (Af 1) <| Az (Af 5) fun ds => Ag rfl (q_eqb Tryz.underlying4 Aa Aa) <| Aj (Af 1) <| Ae rfl rfl Aa (by simpa using h1) <| Aj (Af 1) <| Ae rfl rfl Aa (by simpa using h1) <| Aj (Af 1) <| Ae rfl rfl Aa (by simpa using h1) <| Aj (Af 1) <| Ae rfl rfl Aa (by simpa using h1) <| Aj (Af 1) ?_
  rcases Bool.eq_false_or_eq_true x.sold with h2 | h2
  ·refine Ae rfl rfl Aa (by first | (rw [h2]; done) | (rw [h2]; rfl)) <| Aj (Af 1) <| Ae rfl rfl Aa (by first | (rw [h2]; done) | (rw [h2]; rfl)) <| Aj (Af 1) <| Ae rfl rfl Aa (by first | (rw [h2]; done) | (rw [h2]; rfl)) <| Aj (Af 1) <| Ae rfl rfl Aa (by first | (rw [h2]; done) | (rw [h2]; rfl)) <| Aj (Af 1) <| Ae rfl rfl Aa (by first | (rw [h2]; done) | (rw [h2]; rfl)) <| Aj (Af 1) <| Ae rfl rfl Aa (by first | (rw [h2]; done) | (rw [h2]; rfl)) <| Aj (Af 1) <| Ae rfl rfl Aa (by first | (rw [h2]; done) | (rw [h2]; rfl)) <| Aj (Af 1) ?_
   by_cases h3 : x.lo ≤ r.price
   ·refine Ae rfl rfl Aa (dT h3) <| Aj (Af 1) <| Ae rfl rfl Aa (dT h3) <| Aj (Af 1) <| Ae rfl rfl Aa (dT h3) <| Aj (Af 1) <| Ae rfl rfl Aa (dT h3) <| Aj (Af 1) <| Ae rfl rfl Aa (dT h3) <| Aj (Af 1) <| Ae rfl rfl Aa (dT h3) <| Aj (Af 1) <| Ae rfl rfl Aa (by first | (rw [h2]; done) | (rw [h2]; rfl)) <| Ag rfl (Ar Aa (dT h3) Aa) <| Ae rfl rfl Aa (by simpa using h1) <| Ag rfl (As Aa (by first | (rw [h2]; done) | (rw [h2]; rfl)) Aa) <| Ag rfl (Ar Aa (by simpa using h1) Aa) <| Aw (Af 1) <| At <| Ap rfl Bd ?_
    show _ = _
    unfold rightE; rw [← h1, h2]; simp [outOf, h3]
   refine Ah rfl rfl Aa (.inl (congrArg Value.bool (dF h3))) rfl <| Ah rfl rfl Aa (.inl (congrArg Value.bool (dF h3))) rfl <| Ah rfl rfl Aa (.inl (congrArg Value.bool (dF h3))) rfl <| Ah rfl rfl Aa (.inl (congrArg Value.bool (dF h3))) rfl <| Ah rfl rfl Aa (.inl (congrArg Value.bool (dF h3))) rfl <| Ah rfl rfl Aa (.inl (congrArg Value.bool (dF h3))) rfl <| Ae rfl rfl Aa (by first | (rw [h2]; done) | (rw [h2]; rfl)) <| Ag rfl (As Aa (dF h3) Aa) <| Ae rfl rfl Aa (by simpa using h1) <| Ag rfl (As Aa (by first | (rw [h2]; done) | (rw [h2]; rfl)) Aa) <| Ag rfl (Ar Aa (by simpa using h1) Aa) <| Aw (Af 1) <| At <| Ap rfl Bd ?_
   show _ = _
   unfold rightE; rw [← h1, h2]; simp [outOf, h3]
  refine Ah rfl rfl Aa (.inl (congrArg Value.bool (by first | (rw [h2]; done) | (rw [h2]; rfl)))) rfl <| Ah rfl rfl Aa (.inl (congrArg Value.bool (by first | (rw [h2]; done) | (rw [h2]; rfl)))) rfl <| Ah rfl rfl Aa (.inl (congrArg Value.bool (by first | (rw [h2]; done) | (rw [h2]; rfl)))) rfl <| Ah rfl rfl Aa (.inl (congrArg Value.bool (by first | (rw [h2]; done) | (rw [h2]; rfl)))) rfl <| Ah rfl rfl Aa (.inl (congrArg Value.bool (by first | (rw [h2]; done) | (rw [h2]; rfl)))) rfl <| Ah rfl rfl Aa (.inl (congrArg Value.bool (by first | (rw [h2]; done) | (rw [h2]; rfl)))) rfl <| Ah rfl rfl Aa (.inl (congrArg Value.bool (by first | (rw [h2]; done) | (rw [h2]; rfl)))) rfl <| Ah rfl rfl Aa (.inr rfl) rfl <| Ah rfl rfl Aa (.inr rfl) rfl <| Ah rfl rfl Aa (.inr rfl) rfl <| Ah rfl rfl Aa (.inr rfl) rfl <| Ah rfl rfl Aa (.inr rfl) rfl <| Ah rfl rfl Aa (.inr rfl) rfl <| Ah rfl rfl Aa (.inl (congrArg Value.bool (by first | (rw [h2]; done) | (rw [h2]; rfl)))) rfl <| Ae rfl rfl Aa (by simpa using h1) <| Ag rfl (Ar Aa (by first | (rw [h2]; done) | (rw [h2]; rfl)) Aa) <| Ag rfl (Ar Aa (by simpa using h1) Aa) <| Aw (Af 1) <| At <| Ap rfl Bd ?_
  show _ = _
  unfold rightE; rw [← h1, h2]; simp [outOf]
 refine Ac <| Am fun ds => A5 rfl <| Bg Aa rfl fun b3 hb3 nb3 => A5 rfl <| Bg Aa rfl fun b4 hb4 nb4 => Aw (Af 1) <| Az (Af 5) fun ds => Ag rfl (q_eqb Tryz.underlying4 Aa Aa) <| Aj (Af 1) <| Ah rfl rfl Aa (.inl (congrArg Value.bool (by simpa using h1))) rfl <| Ah rfl rfl Aa (.inl (congrArg Value.bool (by simpa using h1))) rfl <| Ah rfl rfl Aa (.inl (congrArg Value.bool (by simpa using h1))) rfl <| Ah rfl rfl Aa (.inl (congrArg Value.bool (by simpa using h1))) rfl <| Ah rfl rfl Aa (.inr rfl) rfl <| Ah rfl rfl Aa (.inr rfl) rfl <| Ah rfl rfl Aa (.inr rfl) rfl <| Ah rfl rfl Aa (.inr rfl) rfl <| Ah rfl rfl Aa (.inr rfl) rfl <| Ah rfl rfl Aa (.inr rfl) rfl <| Ah rfl rfl Aa (.inr rfl) rfl <| Ah rfl rfl Aa (.inr rfl) rfl <| Ah rfl rfl Aa (.inr rfl) rfl <| Ah rfl rfl Aa (.inr rfl) rfl <| Ah rfl rfl Aa (.inr rfl) rfl <| Ah rfl rfl Aa (.inr rfl) rfl <| Ah rfl rfl Aa (.inr rfl) rfl <| Ah rfl rfl Aa (.inr rfl) rfl <| Ah rfl rfl Aa (.inl (congrArg Value.bool (by simpa using h1))) rfl <| Ag rfl (As Aa (by simpa using h1) Aa) <| Aw (Af 1) <| At <| Ap rfl Bd ?_
 show _ = _
 unfold rightE; simp [outOf]; intro h; exact absurd h (by simpa using h1)
end
section
set_option maxRecDepth 100000
open Go.RowKit
theorem JY : ZeroT Tryz.prog 41 (.agg #[.int .i64 0, .int .i64 0]) := Br (by kernel_rfl)
theorem Gy : AggT Tryz.prog 41 2 := Cu (by kernel_rfl)
instance : AggI Tryz.prog 41 2 := ⟨Gy⟩
theorem bd_98 : Body Tryz.prog 98 := AE (by kernel_rfl)
theorem bd_99 : Body Tryz.prog 99 := AE (by kernel_rfl)
theorem Ps : BuildT Tryz.prog 41 [.int .i64 0, .int .i64 0] [(0, 1), (1, 1)] := BD JY (by kernel_rfl) (by decide)
instance : FieldI Tryz.prog 95 0 0 := ⟨AU (by kernel_rfl)⟩
theorem Ge : OneT Tryz.prog 97 := BE (by kernel_rfl)
instance : OneI Tryz.prog 97 := ⟨Ge⟩
theorem QH : Tryz.prog.stoodInHeld 41 = false := by kernel_rfl
theorem Ra : Tryz.prog.eqGuardType Tryz.prog.depth 41 = false := by kernel_rfl
theorem OE : OneT Tryz.prog 3 := BE (by kernel_rfl)
instance : OneI Tryz.prog 3 := ⟨OE⟩
theorem G0 {a b : Int} : (!((a == 0) && (b == 0))) = decide (¬ (a = 0 ∧ b = 0)) := by
 by_cases h1 : a = 0 <;> by_cases h2 : b = 0 <;> simp [h1, h2]
theorem G6 {a b lo hi : Int} (h : (inB lo hi a && inB lo hi b) = false) : rangeE a b lo hi = 7 := by
 unfold rangeE
 simp only [inB, Bool.and_eq_false_iff, decide_eq_false_iff_not] at h
 rw [if_pos (by omega)]
theorem Fz {a b lo hi : Int} (h : (inB lo hi a && inB lo hi b) = true) : rangeE a b lo hi = if b < a then 2 else 0 := by
 unfold rangeE
 simp only [inB, Bool.and_eq_true, decide_eq_true_eq] at h
 rw [if_neg (by omega)]
theorem Cp {s : Sale} {l : List Ent} {k : Nat} (hk : k < l.length) (h1 : inB 0 (s.lots.length - 1) l[k].lot = true) (hA : ¬ (0 < k ∧ l[k].lot ≤ ((l[k - 1]?).map (·.lot)).getD 0)) (hB : ¬ (l[k].sold = false ∧ ¬ (l[k].lo = 0 ∧ l[k].hi = 0))) : entErr s l k = rangeE l[k].lo l[k].hi 0 100000 := by
 rw [DK hk, if_neg (by rw [h1]; decide), if_neg (fun h => h.elim hA hB)]
theorem MJ {s : Sale} {l : List Ent} : (catE s l = 0 ∧ firstE l.length l.length (entErr s l) = none) ∨ (catE s l ≠ 0 ∧ ∃ i, firstE l.length l.length (entErr s l) = some (i, catE s l)) := by
 unfold catE firstE
 rw [if_neg (Nat.lt_irrefl _)]
 cases hf : firstBad l.length (entErr s l) with
 | none => exact .inl ⟨rfl, rfl⟩
 | some i =>
   unfold firstBad at hf
   have := List.find?_some hf
   simp at this
   exact .inr ⟨this, i, rfl⟩
theorem GZ {F : Heap} {vs vb vl vn vd : Value} {s : Sale} (hr : SaleR F vs vb vl vn vd s) {ve : Value} {l : List Ent} (he : Sl F ve 4 Ent.enc l) {c2 c3 : Nat} (hc2 : F c2 = some (bx 33 [vs, .int .i64 s.premium, .int .i64 s.fee, .int .i64 s.days, vb, vl, vn, vd])) (hc3 : F c3 = some (bx 97 [ve])) {k : Nat} (hk : k < l.length) : Ok Tryz.prog 99 [.int .i64 (k : Int), .agg (l[k].enc).toArray, .pointer (some ⟨c2, 0, none⟩), .pointer (some ⟨c3, 0, none⟩)].toArray F fun u _ => u = .int .i64 (entErr s l k) := by
 refine Ok.intro Tryz.func99 rfl Tryz.ntmps99 rfl fun w0 => ?_
 have hL1 := hr.lots.plain.lt
 have hL2 := he.plain.lt
 by_cases h1 : inB 0 (s.lots.length - 1) l[k].lot = true
 ·refine Ac <| Am fun ds => A5 rfl <| Bg Aa rfl fun b1 hb1 nb1 => Aw (Af 1) <| Ac <| Aq <| Az (Af 1) fun ds => Ag rfl (Ak Dm Aa (AA hc2 rfl)) <| Ag rfl (A4 BN Aa hr.lots.plain) <| Ag rfl (B4 Aa Aa rfl (by omega) (by omega)) <| Aj (Af 2) <| A5 rfl <| AM A9 B2 rfl (.cons Aa .nil) rfl rfl (by decide) (by simp [Value.oneCell']) fun b2 hb2 nb2 => AJ (i := 0) rfl hb2 .here fun F3 hF4 hz5 => ?_
  replace he := he.mono hF4
  replace hc3 := hF4 _ _ hc3
  have hsl6 := Bh hz5
  refine AN rfl (Ay Cc Aa AW (Bj _ _ hsl6) (fun _ _ h => h)) <| Aw (Af 1) <| Ad Aa (by simp [h1]) ?_
  by_cases hk0 : 0 < k
  ·have hk1 : k - 1 < l.length := by omega
   have hprev : ((l[k - 1]?).map (·.lot)).getD 0 = l[k - 1].lot := by rw [List.getElem?_eq_getElem hk1]; rfl
   refine Ac <| Bs (.inl rfl) (fun _ _ h => h) (by kernel_rfl) (by kernel_rfl) fun ds => AR (Af 3) <| A3 rfl rfl Aa (dT (by omega)) <| AR (Af 1) <| A3 rfl rfl Aa (dT (by omega)) <| AR (Af 1) <| A3 rfl rfl Aa (dT (by omega)) <| AT rfl (Ak Ge Aa (AA hc3 rfl)) <| A3 rfl rfl Aa (dT (by omega)) <| AR (Af 1) <| A3 rfl rfl Aa (dT (by omega)) <| AT rfl (B4 Aa Aa rfl (by omega) (by omega)) <| A3 rfl rfl Aa (dT (by omega)) <| AT rfl (A1 (k := k - 1) Dx Aa he.plain Aa (by omega) hk1) <| A3 rfl rfl Aa (dT (by omega)) <| AR (Af 1) <| A3 rfl rfl Aa (dT (by omega)) <| AT rfl (Ak AF Aa (he.cell hk1 rfl)) <| A3 rfl rfl Aa (dT (by omega)) <| AR (Af 1) <| AT rfl (Ar Aa (dT (by omega)) Aa) <| AR (Af 1) ?_
   by_cases h2 : l[k].lot ≤ l[k - 1].lot
   ·refine A6 rfl rfl Aa (.inl (congrArg Value.bool (dT h2))) rfl <| A6 rfl rfl Aa (.inl (congrArg Value.bool (dT h2))) rfl <| A6 rfl rfl Aa (.inl (congrArg Value.bool (dT h2))) rfl <| A6 rfl rfl Aa (.inl (congrArg Value.bool (dT h2))) rfl <| A6 rfl rfl Aa (.inr rfl) rfl <| A6 rfl rfl Aa (.inr rfl) rfl <| A6 rfl rfl Aa (.inr rfl) rfl <| A6 rfl rfl Aa (.inr rfl) rfl <| A6 rfl rfl Aa (.inl (congrArg Value.bool (dT h2))) rfl <| AT rfl (Ar Aa (dT h2) Aa) <| AR (Af 1) <| B0 <| Ab <| Ai Aa rfl <| AD (Af 1) <| At <| A7 <| Ax <| Ap rfl Bd ?_
    show _ = _
    rw [DK hk, if_neg (by rw [h1]; decide), if_pos (.inl ⟨hk0, by rw [hprev]; exact h2⟩)]; rfl
   have hA : ¬ (0 < k ∧ l[k].lot ≤ ((l[k - 1]?).map (·.lot)).getD 0) := fun h => h2 (by rw [← hprev]; exact h.2)
   refine A3 rfl rfl Aa (dF h2) <| AR (Af 1) <| A3 rfl rfl Aa (dF h2) <| AR (Af 1) <| A3 rfl rfl Aa (dF h2) <| AR (Af 1) <| A3 rfl rfl Aa (dF h2) <| AR (Af 1) ?_
   rcases Bool.eq_false_or_eq_true l[k].sold with h3 | h3
   ·have hB : ¬ (l[k].sold = false ∧ ¬ (l[k].lo = 0 ∧ l[k].hi = 0)) := fun h => by rw [h3] at h; exact absurd h.1 (by decide)
    refine A6 rfl rfl Aa (.inl (congrArg Value.bool (by first | (rw [h3]; done) | (rw [h3]; rfl)))) rfl <| A6 rfl rfl Aa (.inl (congrArg Value.bool (by first | (rw [h3]; done) | (rw [h3]; rfl)))) rfl <| A6 rfl rfl Aa (.inl (congrArg Value.bool (by first | (rw [h3]; done) | (rw [h3]; rfl)))) rfl <| A6 rfl rfl Aa (.inl (congrArg Value.bool (by first | (rw [h3]; done) | (rw [h3]; rfl)))) rfl <| A3 rfl rfl Aa (dF h2) <| AT rfl (As Aa (by first | (rw [h3]; done) | (rw [h3]; rfl)) Aa) <| AT rfl (As Aa (dF h2) Aa) <| AR (Af 1) <| B0 <| Ab <| Ad Aa rfl ?_
    by_cases h5 : (inB 0 100000 l[k].lo && inB 0 100000 l[k].hi) = true
    ·have h6 := Fz h5
     refine Az (Af 6) fun ds => A5 rfl <| AM A9 B2 rfl (.cons Aa (.cons Aa .nil)) rfl rfl (by decide) (by simp [Value.oneCell']) fun b7 hb7 nb7 => AJ (i := 0) rfl hb7 .here fun F8 hF9 hz10 => ?_
     have hsl11 := BW hz10
     refine AN rfl (Ay Cc Aa AW (Bj _ _ hsl11) (fun _ _ h => h)) <| Aw (Af 1) <| Ad Aa (by first | (rw [B6, h5]; done) | (rw [B6, h5]; rfl)) ?_
     by_cases h7 : l[k].hi < l[k].lo
     ·refine AD (Af 8) <| Ai Aa (dT h7) <| AD (Af 1) <| At <| A7 <| Ax <| Ap rfl Bd ?_
      show _ = _
      rw [Cp hk h1 hA hB, h6, if_pos h7]; rfl
     refine AD (Af 8) <| Ad Aa (dF h7) <| Al <| A0 <| Ab <| AD (Af 1) <| At <| Ap rfl Bd ?_
     show _ = _
     rw [Cp hk h1 hA hB, h6, if_neg h7]; rfl
    replace h5 : (inB 0 100000 l[k].lo && inB 0 100000 l[k].hi) = false := by simpa using h5
    have h6 := G6 h5
    refine Az (Af 6) fun ds => A5 rfl <| AM A9 B2 rfl (.cons Aa (.cons Aa .nil)) rfl rfl (by decide) (by simp [Value.oneCell']) fun b12 hb12 nb12 => AJ (i := 0) rfl hb12 .here fun F13 hF14 hz15 => ?_
    have hsl16 := BW hz15
    refine AN rfl (Ay Cc Aa AW (Bj _ _ hsl16) (fun _ _ h => h)) <| Aw (Af 1) <| Ai Aa (by first | (rw [B6, h5]; done) | (rw [B6, h5]; rfl)) <| AD (Af 1) <| At <| A7 <| Ax <| Ap rfl Bd ?_
    show _ = _
    rw [Cp hk h1 hA hB, h6]; rfl
   refine A3 rfl rfl Aa (by first | (rw [h3]; done) | (rw [h3]; rfl)) <| AR (Af 1) <| A3 rfl rfl Aa (by first | (rw [h3]; done) | (rw [h3]; rfl)) <| AT rfl (AC (vs := [.int .i64 l[k].lo, .int .i64 l[k].hi]) Gy Aa rfl rfl (HX 0 rfl rfl)) <| A3 rfl rfl Aa (by first | (rw [h3]; done) | (rw [h3]; rfl)) <| AT rfl (Bm Ps .nil .nil) <| A3 rfl rfl Aa (by first | (rw [h3]; done) | (rw [h3]; rfl)) <| AT rfl (KC Tryz.underlying41 QH Ra (by decide) (by decide) rfl rfl Tryz.underlying3 Tryz.underlying3 OE OE Aa Aa) <| A3 rfl rfl Aa (dF h2) <| AT rfl (Ar Aa (by first | (rw [h3]; done) | (rw [h3]; rfl)) Aa) <| AT rfl (As Aa (dF h2) Aa) <| AR (Af 1) <| B0 <| Ab ?_
   by_cases h4 : l[k].lo = 0 ∧ l[k].hi = 0
   ·have hB : ¬ (l[k].sold = false ∧ ¬ (l[k].lo = 0 ∧ l[k].hi = 0)) := fun h => h.2 h4
    refine Ad Aa (by rw [G0]; exact dF (fun h => h h4)) ?_
    by_cases h5 : (inB 0 100000 l[k].lo && inB 0 100000 l[k].hi) = true
    ·have h6 := Fz h5
     refine Az (Af 6) fun ds => A5 rfl <| AM A9 B2 rfl (.cons Aa (.cons Aa .nil)) rfl rfl (by decide) (by simp [Value.oneCell']) fun b17 hb17 nb17 => AJ (i := 0) rfl hb17 .here fun F18 hF19 hz20 => ?_
     have hsl21 := BW hz20
     refine AN rfl (Ay Cc Aa AW (Bj _ _ hsl21) (fun _ _ h => h)) <| Aw (Af 1) <| Ad Aa (by first | (rw [B6, h5]; done) | (rw [B6, h5]; rfl)) ?_
     by_cases h7 : l[k].hi < l[k].lo
     ·refine AD (Af 8) <| Ai Aa (dT h7) <| AD (Af 1) <| At <| A7 <| Ax <| Ap rfl Bd ?_
      show _ = _
      rw [Cp hk h1 hA hB, h6, if_pos h7]; rfl
     refine AD (Af 8) <| Ad Aa (dF h7) <| Al <| A0 <| Ab <| AD (Af 1) <| At <| Ap rfl Bd ?_
     show _ = _
     rw [Cp hk h1 hA hB, h6, if_neg h7]; rfl
    replace h5 : (inB 0 100000 l[k].lo && inB 0 100000 l[k].hi) = false := by simpa using h5
    have h6 := G6 h5
    refine Az (Af 6) fun ds => A5 rfl <| AM A9 B2 rfl (.cons Aa (.cons Aa .nil)) rfl rfl (by decide) (by simp [Value.oneCell']) fun b22 hb22 nb22 => AJ (i := 0) rfl hb22 .here fun F23 hF24 hz25 => ?_
    have hsl26 := BW hz25
    refine AN rfl (Ay Cc Aa AW (Bj _ _ hsl26) (fun _ _ h => h)) <| Aw (Af 1) <| Ai Aa (by first | (rw [B6, h5]; done) | (rw [B6, h5]; rfl)) <| AD (Af 1) <| At <| A7 <| Ax <| Ap rfl Bd ?_
    show _ = _
    rw [Cp hk h1 hA hB, h6]; rfl
   refine Ai Aa (by rw [G0]; exact dT h4) <| AD (Af 1) <| At <| A7 <| Ax <| Ap rfl Bd ?_
   show _ = _
   rw [DK hk, if_neg (by rw [h1]; decide), if_pos (.inr ⟨h3, h4⟩)]; rfl
  have hA : ¬ (0 < k ∧ l[k].lot ≤ ((l[k - 1]?).map (·.lot)).getD 0) := fun h => hk0 h.1
  refine Ac <| Bs (.inl rfl) (fun _ _ h => h) (by kernel_rfl) (by kernel_rfl) fun ds => AR (Af 3) <| A6 rfl rfl Aa (.inl (congrArg Value.bool (dF (by omega)))) rfl <| A6 rfl rfl Aa (.inl (congrArg Value.bool (dF (by omega)))) rfl <| A6 rfl rfl Aa (.inl (congrArg Value.bool (dF (by omega)))) rfl <| A6 rfl rfl Aa (.inl (congrArg Value.bool (dF (by omega)))) rfl <| A6 rfl rfl Aa (.inl (congrArg Value.bool (dF (by omega)))) rfl <| A6 rfl rfl Aa (.inl (congrArg Value.bool (dF (by omega)))) rfl <| A6 rfl rfl Aa (.inl (congrArg Value.bool (dF (by omega)))) rfl <| A6 rfl rfl Aa (.inl (congrArg Value.bool (dF (by omega)))) rfl <| A6 rfl rfl Aa (.inl (congrArg Value.bool (dF (by omega)))) rfl <| AT rfl (As Aa (dF (by omega)) Aa) <| AR (Af 1) <| A3 rfl rfl Aa rfl <| AR (Af 1) <| A3 rfl rfl Aa rfl <| AR (Af 1) <| A3 rfl rfl Aa rfl <| AR (Af 1) <| A3 rfl rfl Aa rfl <| AR (Af 1) ?_
  rcases Bool.eq_false_or_eq_true l[k].sold with h3 | h3
  ·have hB : ¬ (l[k].sold = false ∧ ¬ (l[k].lo = 0 ∧ l[k].hi = 0)) := fun h => by rw [h3] at h; exact absurd h.1 (by decide)
   refine A6 rfl rfl Aa (.inl (congrArg Value.bool (by first | (rw [h3]; done) | (rw [h3]; rfl)))) rfl <| A6 rfl rfl Aa (.inl (congrArg Value.bool (by first | (rw [h3]; done) | (rw [h3]; rfl)))) rfl <| A6 rfl rfl Aa (.inl (congrArg Value.bool (by first | (rw [h3]; done) | (rw [h3]; rfl)))) rfl <| A6 rfl rfl Aa (.inl (congrArg Value.bool (by first | (rw [h3]; done) | (rw [h3]; rfl)))) rfl <| A3 rfl rfl Aa rfl <| AT rfl (As Aa (by first | (rw [h3]; done) | (rw [h3]; rfl)) Aa) <| AT rfl (As Aa rfl Aa) <| AR (Af 1) <| B0 <| Ab <| Ad Aa rfl ?_
   by_cases h5 : (inB 0 100000 l[k].lo && inB 0 100000 l[k].hi) = true
   ·have h6 := Fz h5
    refine Az (Af 6) fun ds => A5 rfl <| AM A9 B2 rfl (.cons Aa (.cons Aa .nil)) rfl rfl (by decide) (by simp [Value.oneCell']) fun b27 hb27 nb27 => AJ (i := 0) rfl hb27 .here fun F28 hF29 hz30 => ?_
    have hsl31 := BW hz30
    refine AN rfl (Ay Cc Aa AW (Bj _ _ hsl31) (fun _ _ h => h)) <| Aw (Af 1) <| Ad Aa (by first | (rw [B6, h5]; done) | (rw [B6, h5]; rfl)) ?_
    by_cases h7 : l[k].hi < l[k].lo
    ·refine AD (Af 8) <| Ai Aa (dT h7) <| AD (Af 1) <| At <| A7 <| Ax <| Ap rfl Bd ?_
     show _ = _
     rw [Cp hk h1 hA hB, h6, if_pos h7]; rfl
    refine AD (Af 8) <| Ad Aa (dF h7) <| Al <| A0 <| Ab <| AD (Af 1) <| At <| Ap rfl Bd ?_
    show _ = _
    rw [Cp hk h1 hA hB, h6, if_neg h7]; rfl
   replace h5 : (inB 0 100000 l[k].lo && inB 0 100000 l[k].hi) = false := by simpa using h5
   have h6 := G6 h5
   refine Az (Af 6) fun ds => A5 rfl <| AM A9 B2 rfl (.cons Aa (.cons Aa .nil)) rfl rfl (by decide) (by simp [Value.oneCell']) fun b32 hb32 nb32 => AJ (i := 0) rfl hb32 .here fun F33 hF34 hz35 => ?_
   have hsl36 := BW hz35
   refine AN rfl (Ay Cc Aa AW (Bj _ _ hsl36) (fun _ _ h => h)) <| Aw (Af 1) <| Ai Aa (by first | (rw [B6, h5]; done) | (rw [B6, h5]; rfl)) <| AD (Af 1) <| At <| A7 <| Ax <| Ap rfl Bd ?_
   show _ = _
   rw [Cp hk h1 hA hB, h6]; rfl
  refine A3 rfl rfl Aa (by first | (rw [h3]; done) | (rw [h3]; rfl)) <| AR (Af 1) <| A3 rfl rfl Aa (by first | (rw [h3]; done) | (rw [h3]; rfl)) <| AT rfl (AC (vs := [.int .i64 l[k].lo, .int .i64 l[k].hi]) Gy Aa rfl rfl (HX 0 rfl rfl)) <| A3 rfl rfl Aa (by first | (rw [h3]; done) | (rw [h3]; rfl)) <| AT rfl (Bm Ps .nil .nil) <| A3 rfl rfl Aa (by first | (rw [h3]; done) | (rw [h3]; rfl)) <| AT rfl (KC Tryz.underlying41 QH Ra (by decide) (by decide) rfl rfl Tryz.underlying3 Tryz.underlying3 OE OE Aa Aa) <| A3 rfl rfl Aa rfl <| AT rfl (Ar Aa (by first | (rw [h3]; done) | (rw [h3]; rfl)) Aa) <| AT rfl (As Aa rfl Aa) <| AR (Af 1) <| B0 <| Ab ?_
  by_cases h4 : l[k].lo = 0 ∧ l[k].hi = 0
  ·have hB : ¬ (l[k].sold = false ∧ ¬ (l[k].lo = 0 ∧ l[k].hi = 0)) := fun h => h.2 h4
   refine Ad Aa (by rw [G0]; exact dF (fun h => h h4)) ?_
   by_cases h5 : (inB 0 100000 l[k].lo && inB 0 100000 l[k].hi) = true
   ·have h6 := Fz h5
    refine Az (Af 6) fun ds => A5 rfl <| AM A9 B2 rfl (.cons Aa (.cons Aa .nil)) rfl rfl (by decide) (by simp [Value.oneCell']) fun b37 hb37 nb37 => AJ (i := 0) rfl hb37 .here fun F38 hF39 hz40 => ?_
    have hsl41 := BW hz40
    refine AN rfl (Ay Cc Aa AW (Bj _ _ hsl41) (fun _ _ h => h)) <| Aw (Af 1) <| Ad Aa (by first | (rw [B6, h5]; done) | (rw [B6, h5]; rfl)) ?_
    by_cases h7 : l[k].hi < l[k].lo
    ·refine AD (Af 8) <| Ai Aa (dT h7) <| AD (Af 1) <| At <| A7 <| Ax <| Ap rfl Bd ?_
     show _ = _
     rw [Cp hk h1 hA hB, h6, if_pos h7]; rfl
    refine AD (Af 8) <| Ad Aa (dF h7) <| Al <| A0 <| Ab <| AD (Af 1) <| At <| Ap rfl Bd ?_
    show _ = _
    rw [Cp hk h1 hA hB, h6, if_neg h7]; rfl
   replace h5 : (inB 0 100000 l[k].lo && inB 0 100000 l[k].hi) = false := by simpa using h5
   have h6 := G6 h5
   refine Az (Af 6) fun ds => A5 rfl <| AM A9 B2 rfl (.cons Aa (.cons Aa .nil)) rfl rfl (by decide) (by simp [Value.oneCell']) fun b42 hb42 nb42 => AJ (i := 0) rfl hb42 .here fun F43 hF44 hz45 => ?_
   have hsl46 := BW hz45
   refine AN rfl (Ay Cc Aa AW (Bj _ _ hsl46) (fun _ _ h => h)) <| Aw (Af 1) <| Ai Aa (by first | (rw [B6, h5]; done) | (rw [B6, h5]; rfl)) <| AD (Af 1) <| At <| A7 <| Ax <| Ap rfl Bd ?_
   show _ = _
   rw [Cp hk h1 hA hB, h6]; rfl
  refine Ai Aa (by rw [G0]; exact dT h4) <| AD (Af 1) <| At <| A7 <| Ax <| Ap rfl Bd ?_
  show _ = _
  rw [DK hk, if_neg (by rw [h1]; decide), if_pos (.inr ⟨h3, h4⟩)]; rfl
 replace h1 : inB 0 (s.lots.length - 1) l[k].lot = false := by simpa using h1
 refine Ac <| Am fun ds => A5 rfl <| Bg Aa rfl fun b47 hb47 nb47 => Aw (Af 1) <| Ac <| Aq <| Az (Af 1) fun ds => Ag rfl (Ak Dm Aa (AA hc2 rfl)) <| Ag rfl (A4 BN Aa hr.lots.plain) <| Ag rfl (B4 Aa Aa rfl (by omega) (by omega)) <| Aj (Af 2) <| A5 rfl <| AM A9 B2 rfl (.cons Aa .nil) rfl rfl (by decide) (by simp [Value.oneCell']) fun b48 hb48 nb48 => AJ (i := 0) rfl hb48 .here fun F49 hF50 hz51 => ?_
 have hsl52 := Bh hz51
 refine AN rfl (Ay Cc Aa AW (Bj _ _ hsl52) (fun _ _ h => h)) <| Aw (Af 1) <| Ai Aa (by simp [h1]) <| AD (Af 1) <| At <| A7 <| Ax <| Ap rfl Bd ?_
 show _ = _
 rw [DK hk, if_pos h1]; rfl
theorem Js {F : Heap} {vs vb vl vn vd : Value} {s : Sale} (hr : SaleR F vs vb vl vn vd s) {ve : Value} {l : List Ent} (he : Sl F ve 4 Ent.enc l) (hok : askedE s l = 0) : OkN Tryz.prog 68 [.agg #[vs, .int .i64 s.premium, .int .i64 s.fee, .int .i64 s.days, vb, vl, vn, vd], ve].toArray F fun u F' Hn => LookR F' u Hn vs vb vl vn vd s := by
 refine OkN.intro Tryz.func68 rfl Tryz.ntmps68 rfl fun w0 => ?_
 obtain ⟨h0, h1⟩ := Eu hok
 have hfc := MJ.resolve_right (fun h => h.1 h1)
 have hL2 := he.plain.lt
 refine Ac <| Am fun ds => A5 rfl <| Bg Aa rfl fun b1 hb1 nb1 => A5 rfl <| Bg Aa (B9 he.plain.one) fun b2 hb2 nb2 => Aw (Af 2) <| Az (Af 1) fun ds => A5 rfl <| BY K3 Aa AW (Ja hr (BV h0) h0) fun v3 F4 R7 hr5 hF6 => ?_
 obtain ⟨ba, kb, rfl, hX, rfl⟩ := hr5
 refine Aw (Af 5) <| Ac <| AD (Af 2) <| Ad Aa (by decide) <| Al <| Ab <| Ac <| AK (i := 1) rfl hb1 (.next <| .here) fun F8 hF9 hz2 => ?_
 refine AK (i := 0) rfl hb2 (.here) fun F10 hF11 hz3 => ?_
 have hU258 := Heap.le_trans hF6 (Heap.le_trans hF9 hF11)
 replace hr := hr.mono hU258
 replace he := he.mono hU258
 replace hX := hX.mono (Heap.le_trans hF9 hF11)
 replace hz2 := hF11 _ _ hz2
 refine Am fun ds => Ag rfl (Ak Ge Aa (AA hz3 rfl)) <| Ag rfl (Ak Ge Aa (AA hz3 rfl)) <| Ag rfl (A4 Dx Aa he.plain) <| Ag rfl (Bt AW) <| AN rfl (Ay bd_98 Aa AW (Kv he (most := l.length) (entErr s l) bd_99 fun k hk _ => GZ hr he hz2 hz3 hk) (fun _ _ h => h.trans (show optV _ = .tuple #[.int .i64 0, .int .i64 0] by rw [hfc.2]; rfl))) <| Aw (Af 4) <| AD (Af 4) <| At <| BK rfl Bd (.refl _) ?_
 exact ⟨_, _, rfl, hX, rfl⟩
theorem GY {F : Heap} {vs vb vl vn vd : Value} {s : Sale} (hr : SaleR F vs vb vl vn vd s) {ve : Value} {l : List Ent} (he : Sl F ve 4 Ent.enc l) (hbad : askedE s l ≠ 0) : Ok Tryz.prog 68 [.agg #[vs, .int .i64 s.premium, .int .i64 s.fee, .int .i64 s.days, vb, vl, vn, vd], ve].toArray F fun u _ => ∃ v, v.oneCell' = true ∧ u = .tuple #[v, .int .i64 (askedE s l)] := by
 refine Ok.intro Tryz.func68 rfl Tryz.ntmps68 rfl fun w0 => ?_
 have hL2 := he.plain.lt
 by_cases h0 : (checkS s).2.2 = 0
 ·have h1 : catE s l ≠ 0 := by rw [← HB h0]; exact hbad
  obtain ⟨i, hfi⟩ := (MJ.resolve_left (fun h => h1 h.1)).2
  refine Ac <| Am fun ds => A5 rfl <| Bg Aa rfl fun b1 hb1 nb1 => A5 rfl <| Bg Aa (B9 he.plain.one) fun b2 hb2 nb2 => Aw (Af 2) <| Az (Af 1) fun ds => A5 rfl <| BY K3 Aa AW (Ja hr (BV h0) h0) fun v3 F4 R7 hr5 hF6 => ?_
  obtain ⟨ba, kb, rfl, hX, rfl⟩ := hr5
  refine Aw (Af 5) <| Ac <| AD (Af 2) <| Ad Aa (by decide) <| Al <| Ab <| Ac <| AK (i := 1) rfl hb1 (.next <| .here) fun F8 hF9 hz2 => ?_
  refine AK (i := 0) rfl hb2 (.here) fun F10 hF11 hz3 => ?_
  have hU281 := Heap.le_trans hF6 (Heap.le_trans hF9 hF11)
  replace hr := hr.mono hU281
  replace he := he.mono hU281
  replace hX := hX.mono (Heap.le_trans hF9 hF11)
  replace hz2 := hF11 _ _ hz2
  refine Am fun ds => Ag rfl (Ak Ge Aa (AA hz3 rfl)) <| Ag rfl (Ak Ge Aa (AA hz3 rfl)) <| Ag rfl (A4 Dx Aa he.plain) <| Ag rfl (Bt AW) <| AN rfl (Ay bd_98 Aa AW (Kv he (most := l.length) (entErr s l) bd_99 fun k hk _ => GZ hr he hz2 hz3 hk) (fun _ _ h => h.trans (show optV _ = .tuple #[.int .i64 i, .int .i64 (catE s l)] by rw [hfi]; rfl))) <| Aw (Af 4) <| AD (Af 4) <| At <| Ap rfl Bd ?_
  exact ⟨_, rfl, by rw [HB h0]; rfl⟩
 refine Ac <| Am fun ds => A5 rfl <| Bg Aa rfl fun b12 hb12 nb12 => A5 rfl <| Bg Aa (B9 he.plain.one) fun b13 hb13 nb13 => Aw (Af 2) <| Az (Af 1) fun ds => AN rfl (Ay K3 Aa AW (Ls hr h0) (fun _ _ h => h)) <| Aw (Af 5) <| Ac <| AD (Af 2) <| Ai Aa (dT h0) <| AD (Af 3) <| At <| Ax <| Ap rfl Bd ?_
 exact ⟨.pointer none, rfl, by rw [LY h0]; rfl⟩
end
section
set_option maxRecDepth 100000
open Go.RowKit
theorem JX : ZeroT Tryz.prog 44 (.slice none 0 0) := Br (by kernel_rfl)
theorem bd_93 : Body Tryz.prog 93 := AE (by kernel_rfl)
theorem bd_95 : Body Tryz.prog 95 := AE (by kernel_rfl)
theorem VL : Body Tryz.prog 102 := AE (by kernel_rfl)
theorem bd_130 : Body Tryz.prog 130 := AE (by kernel_rfl)
theorem V6 : Body Tryz.prog 144 := AE (by kernel_rfl)
theorem el_44 : ElemT Tryz.prog 44 1 24 (.slice none 0 0) := D6 (by kernel_rfl) rfl (by decide)
theorem Bq : OneT Tryz.prog 44 := BE (by kernel_rfl)
instance : OneI Tryz.prog 44 := ⟨Bq⟩
theorem Dh : SliceT Tryz.prog 91 44 1 := Ci (by kernel_rfl)
instance : SliceI Tryz.prog 91 := ⟨_, _, Dh⟩
theorem mem_any {l : List Nat} {z : Nat} : decide (z ∈ l) = l.any (fun x => decide ((z : Int) = (x : Nat))) := by
 rw [Bool.eq_iff_iff, decide_eq_true_iff, List.any_eq_true]
 constructor
 · exact fun h => ⟨z, h, dT rfl⟩
 rintro ⟨x, hx, he⟩
 have := of_decide_eq_true he
 have : z = x := by omega
 subst this
 exact hx
theorem SH {F : Heap} {v : Value} {l : List Nat} (hl : Nats F v l) (z : Nat) : Ok Tryz.prog 93 [v, .int .i64 (z : Int)].toArray F fun r _ => r = .int .i64 (findI (fun x => decide ((z : Int) = (x : Nat))) l) := by
 refine Ok.intro Tryz.func93 rfl Tryz.ntmps93 rfl fun w0 => ?_
 have hlen := hl.plain.lt
 refine AD (Af 1) <| Ac <| Az (Af 1) fun ds => Ag rfl (A4 A9 Aa hl.plain) <| Aw (Af 1) <| Aq ?_
 refine AL [4, 5, 8, 9, 10, 11, 12, 13, 14, 15, 16, 17, 18] (fun m e σ => ∃ k : Nat, m + k = l.length ∧ Fct e 8 (.int .i64 k) ∧ σ = ⟨F, []⟩ ∧ ∀ j (hj : j < l.length), j < k → (fun x => decide ((z : Int) = (x : Nat))) l[j] = false) (l.length) ?_ ?_
 · exact ⟨0, by omega, AX, rfl, fun j hj h => absurd h (by omega)⟩
 rintro m e _ ⟨k, hm, hs8, rfl, hno⟩
 by_cases hlt : k < l.length
 ·refine AD (Af 1) <| Ac <| Ai Aa (by first | rfl | exact dT (by omega)) ?_
  by_cases he : (z : Int) = l[k]
  ·refine Al <| Ab <| Ac <| Aq <| AD (Af 2) <| Az (Af 3) fun ds => Ag rfl (A1  A9 Aa hl.plain Aa rfl hlt) <| Ag rfl (Ak AF Aa (hl.cell1 hlt rfl)) <| Aw (Af 1) <| Ai Aa (dT he) <| AD (Af 2) <| At ?_
   refine A7 (Ax (Ax (A7 (Ax ?_))))
   refine Ap rfl Bd ?_
   show _ = _
   rw [Co (p := (fun x => decide ((z : Int) = (x : Nat)))) hlt (dT he) hno]; rfl
  refine Al <| Ab <| Ac <| Aq <| AD (Af 2) <| Az (Af 3) fun ds => Ag rfl (A1  A9 Aa hl.plain Aa rfl hlt) <| Ag rfl (Ak AF Aa (hl.cell1 hlt rfl)) <| Aw (Af 1) <| Ad Aa (dF he) <| Al <| A0 <| Ab <| Am fun ds => Ag rfl (AG Aa Aa rfl (by omega) (by omega)) <| Aj (Af 1) <| Ao ?_
  refine Ab ⟨_, m - 1, Off.eq (BR rfl <| BM rfl <| BX rfl <| A2), by omega, ?_⟩
  refine ⟨k + 1, by omega, AX, rfl, fun j hj hjk => ?_⟩
  rcases Nat.lt_succ_iff_lt_or_eq.1 hjk with hjk | rfl
  · exact hno j hj hjk
  exact dF he
 refine AD (Af 1) <| Ac <| Ad Aa (by first | rfl | exact dF (by omega)) <| AH ?_
 refine A8 <| A8 <| AB <| Ab <| AD (Af 1) <| At <| Ap rfl Bd ?_
 show _ = _
 rw [Cy (p := (fun x => decide ((z : Int) = (x : Nat)))) (fun j hj => hno j hj (by omega))]; rfl
theorem Jo {F : Heap} {v : Value} {l : List Nat} (hl : Nats F v l) (z : Nat) : Ok Tryz.prog 58 [v, .int .i64 (z : Int)].toArray F fun r _ => r = .bool (decide (z ∈ l)) := by
 refine Ok.intro Tryz.func58 rfl Tryz.ntmps58 rfl fun w0 => AD (Af 1) <| Az (Af 2) fun ds => AN rfl (Ay bd_93 Aa AW (SH hl z) (fun _ _ h => h)) <| Aw (Af 2) <| At <| Ap rfl Bd ?_
 show _ = _
 rw [mem_any, ← CM]; rfl
theorem OP {F : Heap} (z : Int) : Ok Tryz.prog 144 [.int .i64 z].toArray F fun r _ => r = .bool false := by
 refine Ok.intro Tryz.func144 rfl Tryz.ntmps144 rfl fun w0 => AD (Af 1) <| AD (Af 4) <| At <| Ap rfl Bd ?_
 show _ = _
 simp [outOf]
theorem Vh {F : Heap} (a b : Int) : Ok Tryz.prog 102 [.int .i64 a, .int .i64 b].toArray F fun r _ => r = .int .i64 (cmpZ a b) := by
 refine Ok.intro Tryz.func102 rfl Tryz.ntmps102 rfl fun w0 => AD (Af 1) <| Az (Af 1) fun ds => AN rfl (Ay V6 Aa AW (OP _) (fun _ _ h => h)) <| Aw (Af 1) <| Az (Af 1) fun ds => AN rfl (Ay V6 Aa AW (OP _) (fun _ _ h => h)) <| Aw (Af 1) <| Ac <| AD (Af 1) <| Ad Aa rfl <| Al <| Ab <| Ac <| AD (Af 1) <| Ad Aa rfl ?_
 by_cases h1 : a < b
 ·refine Al <| Ab <| Ac <| AD (Af 3) <| Ai Aa (by first | rfl | exact dT (by omega)) <| AD (Af 1) <| At <| Ax <| Ap rfl Bd ?_
  show _ = _
  unfold cmpZ; rw [if_pos h1]; rfl
 refine Al <| Ab <| Ac <| AD (Af 3) <| Ad Aa (by first | rfl | exact dF (by omega)) ?_
 by_cases h2 : b < a
 ·refine Al <| Ab <| Ac <| AD (Af 3) <| Ai Aa (by first | rfl | exact dT (by omega)) <| AD (Af 1) <| At <| Ax <| Ap rfl Bd ?_
  show _ = _
  unfold cmpZ; rw [if_neg h1, if_pos h2]; rfl
 refine Al <| Ab <| Ac <| AD (Af 3) <| Ad Aa (by first | rfl | exact dF (by omega)) <| Al <| Ab <| AD (Af 1) <| At <| Ap rfl Bd ?_
 show _ = _
 unfold cmpZ; rw [if_neg h1, if_neg h2]; rfl
theorem Qr {F : Heap} {v u : Value} {xs ys : List Nat} (hx : Nats F v xs) (hy : Nats F u ys) : Ok Tryz.prog 74 [v, u].toArray F fun r _ => r = .int .i64 (cmpL xs ys) := by
 refine Ok.intro Tryz.func74 rfl Tryz.ntmps74 rfl fun w0 => ?_
 have hlen := hx.plain.lt
 have hlen2 := hy.plain.lt
 refine AD (Af 1) <| Ac <| Az (Af 1) fun ds => Ag rfl (A4 A9 Aa hx.plain) <| Aw (Af 1) <| Aq ?_
 refine AL [4, 5, 6, 7, 8, 11, 12, 13, 14, 15, 16, 17, 18, 19, 20, 21, 22, 23, 24, 25, 26, 27, 28, 29, 30] (fun m e σ => ∃ k : Nat, m + k = xs.length ∧ k ≤ ys.length ∧ Fct e 11 (.int .i64 k) ∧ σ = ⟨F, []⟩ ∧ xs.take k = ys.take k) (xs.length) ?_ ?_
 · exact ⟨0, by omega, by omega, AX, rfl, rfl⟩
 rintro m e _ ⟨k, hm, hk, hs11, rfl, htk⟩
 by_cases hlt : k < xs.length
 ·refine AD (Af 1) <| Ac <| Ai Aa (by first | rfl | exact dT (by omega)) ?_
  by_cases hlt2 : k < ys.length
  ·refine Al <| Ab <| Ac <| Aq <| Az (Af 1) fun ds => Ag rfl (A1  A9 Aa hx.plain Aa rfl hlt) <| Ag rfl (Ak AF Aa (hx.cell1 hlt rfl)) <| Aw (Af 2) <| Ac <| Az (Af 2) fun ds => Ag rfl (A4 A9 Aa hy.plain) <| Aw (Af 1) <| Ad Aa (by first | rfl | exact dF (by omega)) ?_
   by_cases hc : cmpZ xs[k] ys[k] = 0
   ·refine Al <| Ab <| Az (Af 2) fun ds => Ag rfl (A1  A9 Aa hy.plain Aa rfl hlt2) <| Ag rfl (Ak AF Aa (hy.cell1 hlt2 rfl)) <| Aw (Af 1) <| Az (Af 2) fun ds => AN rfl (Ay VL Aa AW (Vh _ _) (fun _ _ h => h)) <| Aw (Af 1) <| AD (Af 2) <| Ad Aa (dF (by simpa using hc)) <| Al <| A0 <| Ab <| Am fun ds => Ag rfl (AG Aa Aa rfl (by omega) (by omega)) <| Aj (Af 1) <| Ao ?_
    refine Ab ⟨_, m - 1, Off.eq (B3 rfl <| Ca rfl <| BM rfl <| BX rfl <| A2), by omega, ?_⟩
    exact ⟨k + 1, by omega, by omega, AX, rfl, Fv hlt hlt2 htk (by have := ST hc; omega)⟩
   refine Al <| Ab <| Az (Af 2) fun ds => Ag rfl (A1  A9 Aa hy.plain Aa rfl hlt2) <| Ag rfl (Ak AF Aa (hy.cell1 hlt2 rfl)) <| Aw (Af 1) <| Az (Af 2) fun ds => AN rfl (Ay VL Aa AW (Vh _ _) (fun _ _ h => h)) <| Aw (Af 1) <| AD (Af 2) <| Ai Aa (dT hc) <| AD (Af 2) <| At ?_
   refine A7 (Ax (Ax (A7 (Ax ?_))))
   refine Ap rfl Bd ?_
   show _ = _
   rw [cmpL_at hlt hlt2 htk hc]; rfl
  refine Al <| Ab <| Ac <| Aq <| Az (Af 1) fun ds => Ag rfl (A1  A9 Aa hx.plain Aa rfl hlt) <| Ag rfl (Ak AF Aa (hx.cell1 hlt rfl)) <| Aw (Af 2) <| Ac <| Az (Af 2) fun ds => Ag rfl (A4 A9 Aa hy.plain) <| Aw (Af 1) <| Ai Aa (by first | rfl | exact dT (by omega)) <| AD (Af 1) <| At ?_
  refine Ax (A7 (Ax (Ax (A7 (Ax ?_)))))
  refine Ap rfl Bd ?_
  show _ = _
  rw [SU hlt (by omega) htk]; rfl
 refine AD (Af 1) <| Ac <| Ad Aa (by first | rfl | exact dF (by omega)) ?_
 obtain rfl : k = xs.length := by omega
 by_cases h2 : xs.length < ys.length
 ·refine AH ?_
  refine A8 <| A8 <| AB <| Ab <| Ac <| Az (Af 1) fun ds => Ag rfl (A4 A9 Aa hx.plain) <| Aj (Af 1) <| Ag rfl (A4 A9 Aa hy.plain) <| Aw (Af 1) <| Ai Aa (by first | rfl | exact dT (by omega)) <| AD (Af 1) <| At <| Ax <| Ap rfl Bd ?_
  show _ = _
  rw [MO hk htk, if_pos h2]; rfl
 refine AH ?_
 refine A8 <| A8 <| AB <| Ab <| Ac <| Az (Af 1) fun ds => Ag rfl (A4 A9 Aa hx.plain) <| Aj (Af 1) <| Ag rfl (A4 A9 Aa hy.plain) <| Aw (Af 1) <| Ad Aa (by first | rfl | exact dF (by omega)) <| Al <| Ab <| AD (Af 1) <| At <| Ap rfl Bd ?_
 show _ = _
 rw [MO hk htk, if_neg h2]; rfl
def lenTab : ByteArray := ⟨#[0, 1, 2, 2, 3, 3, 3, 3, 4, 4, 4, 4, 4, 4, 4, 4, 5, 5, 5, 5, 5, 5, 5, 5, 5, 5, 5, 5, 5, 5, 5, 5, 6, 6, 6, 6, 6, 6, 6, 6, 6, 6, 6, 6, 6, 6, 6, 6, 6, 6, 6, 6, 6, 6, 6, 6, 6, 6, 6, 6, 6, 6, 6, 6, 7, 7, 7, 7, 7, 7, 7, 7, 7, 7, 7, 7, 7, 7, 7, 7, 7, 7, 7, 7, 7, 7, 7, 7, 7, 7, 7, 7, 7, 7, 7, 7, 7, 7, 7, 7, 7, 7, 7, 7, 7, 7, 7, 7, 7, 7, 7, 7, 7, 7, 7, 7, 7, 7, 7, 7, 7, 7, 7, 7, 7, 7, 7, 7, 8, 8, 8, 8, 8, 8, 8, 8, 8, 8, 8, 8, 8, 8, 8, 8, 8, 8, 8, 8, 8, 8, 8, 8, 8, 8, 8, 8, 8, 8, 8, 8, 8, 8, 8, 8, 8, 8, 8, 8, 8, 8, 8, 8, 8, 8, 8, 8, 8, 8, 8, 8, 8, 8, 8, 8, 8, 8, 8, 8, 8, 8, 8, 8, 8, 8, 8, 8, 8, 8, 8, 8, 8, 8, 8, 8, 8, 8, 8, 8, 8, 8, 8, 8, 8, 8, 8, 8, 8, 8, 8, 8, 8, 8, 8, 8, 8, 8, 8, 8, 8, 8, 8, 8, 8, 8, 8, 8, 8, 8, 8, 8, 8, 8, 8, 8, 8, 8, 8, 8, 8, 8, 8, 8, 8, 8, 8, 8]⟩
theorem Qc : (List.range 256).all (fun n => decide (n < 2 ^ (lenTab.data.getD n 0).toNat) && decide ((lenTab.data.getD n 0).toNat ≤ 8)) = true := by kernel_rfl
theorem S8 {n : Nat} (hn : n < 256) : ∃ h : n < lenTab.size, n < 2 ^ (lenTab[n]'h).toNat ∧ (lenTab[n]'h).toNat ≤ 8 := by
 have hs : lenTab.size = 256 := by kernel_rfl
 refine ⟨by omega, ?_⟩
 have := List.all_eq_true.1 Qc n (by simpa using hn)
 simp only [Bool.and_eq_true, decide_eq_true_eq] at this
 have e : lenTab.data.getD n 0 = lenTab[n]'(by omega) := by
   have : n < lenTab.data.size := by have : lenTab.data.size = 256 := hs; omega
   simp only [Array.getD, this, dif_pos]; rfl
 rw [e] at this
 exact this
theorem UA {F : Heap} {n : Nat} (hn : n < 256) : Ok Tryz.prog 130 [.int .u64 (n : Int)].toArray F fun r _ => ∃ q : Nat, r = .int .i64 q ∧ n < 2 ^ q ∧ q ≤ 8 := by
 refine Ok.intro Tryz.func130 rfl Tryz.ntmps130 rfl fun w0 => ?_
 obtain ⟨hs, hq1, hq2⟩ := S8 hn
 refine AD (Af 1) <| Ac <| AD (Af 2) <| Ad Aa (by first | rfl | exact dF (by omega)) <| Al <| Ab <| Ac <| AD (Af 2) <| Ad Aa (by first | rfl | exact dF (by omega)) <| Al <| Ab <| Ac <| AD (Af 2) <| Ad Aa (by first | rfl | exact dF (by omega)) <| Al <| Ab <| Az (Af 2) fun ds => Ag rfl (Ff ⟨_, Tryz.underlying221⟩ Tryz.underlying5 Aa (IntWalk.u8_in _ ⟨by omega, by omega⟩)) <| Ag rfl (FZ (s := lenTab) Tryz.underlying9 Aa Aa rfl hs) <| Ag rfl (q_convB ⟨_, Tryz.underlying5⟩ Tryz.underlying3 Aa) <| Ag rfl (q_addB Aa Aa (by decide) (by decide)) <| Aw (Af 1) <| At <| Ap rfl Bd ?_
 exact ⟨_, congrArg (Value.int .i64) (Int.zero_add _), hq1, hq2⟩
theorem U9 {F : Heap} {n : Nat} (hn : n < 256) : Ok Tryz.prog 95 [.int .u64 (n : Int)].toArray F fun r _ => ∃ q : Nat, r = .int .i64 q ∧ n < 2 ^ q ∧ q ≤ 8 := by
 refine Ok.intro Tryz.func95 rfl Tryz.ntmps95 rfl fun w0 => AD (Af 1) <| Ac <| Ad Aa rfl <| Al <| Ab <| Az (Af 1) fun ds => A5 rfl <| Bi bd_130 Aa AW (UA hn) fun v1 F2 hr3 hF4 => ?_
 obtain ⟨q, rfl, hq1, hq2⟩ := hr3
 refine Aw (Af 1) <| At <| Ap rfl Bd ?_
 exact ⟨q, rfl, hq1, hq2⟩
theorem list_ok {F : Heap} {n : Nat} (hn : n < 256) : Ok Tryz.prog 73 [.int .i64 (n : Int)].toArray F fun u F' => Nats F' u (bitsL n) := by
 refine Ok.intro Tryz.func73 rfl Tryz.ntmps73 rfl fun w0 => AD (Af 1) <| Ac <| Az (Af 1) fun ds => Ag rfl (Ff ⟨_, Tryz.underlying3⟩ Tryz.underlying182 Aa (IntWalk.u64_in _ ⟨by omega, by omega⟩)) <| A5 rfl <| Bi bd_95 Aa AW (U9 hn) fun v1 F2 hr3 hF4 => ?_
 obtain ⟨q, rfl, hq1, hq2⟩ := hr3
 refine Aw (Af 1) <| Aq ?_
 refine AL [2, 3, 7, 8, 9, 10, 11, 12, 13, 14, 15, 16, 17, 18, 19] (fun m e σ => ∃ k : Nat, m + k = q ∧ Fct e 7 (.int .i64 k) ∧ ∃ v R, Fct e 2 v ∧ Own 3 1 v (bitsTo n k).length ((bitsTo n k).flatMap natE) R ∧ σ = ⟨F2, R⟩) (q) ?_ ?_
 · exact ⟨0, by omega, AX, _, _, AX, Own.nil, rfl⟩
 rintro m e _ ⟨k, hm, hs7, v2, R2, hs2, ho, rfl⟩; have hbl := Ha (set := n) (k := k)
 by_cases hlt : k < q
 ·refine AD (Af 1) <| Ac <| Ai Aa (by first | rfl | exact dT (by omega)) ?_
  by_cases hb : n.testBit k = true
  ·refine Al <| Ab <| Ac <| Aq <| AD (Af 2) <| Az (Af 2) fun ds => Ag rfl (FM Aa Aa rfl (by show k < 64; omega) Dz) <| Ag rfl (HW Aa Aa (m := n / 2 ^ k) (k := 1) rfl rfl (by have := Nat.div_le_self n (2 ^ k); omega) (by omega) rfl) <| Aw (Af 1) <| Ai Aa (by rw [C9]; exact hb) <| Am fun ds => Aj (Af 2) <| A5 rfl <| AM A9 B2 rfl (.cons Aa .nil) rfl rfl (by decide) (by simp [Value.oneCell']) fun b6 hb6 nb6 => A5 rfl <| Bp A9 Di Aa ho Aa (B1 (s := 1) 0 rfl rfl (by simp [Value.oneCell'])) (by omega) (by omega) (.s <| .z) .last fun v7 R8 ho9 => ?_
   have ho2 := ho9.snoc (x := k) rfl rfl
   refine Aj (Af 1) <| Ao <| A0 <| Ab <| Bn (fun _ _ h => h.drop (kD <| .refl _)) <| Am fun ds => Ag rfl (AG Aa Aa rfl (by omega) (by omega)) <| Aj (Af 1) <| Ao ?_
   refine Ab ⟨_, m - 1, Off.eq (BR rfl <| Ca rfl <| BM rfl <| BX rfl <| A2), by omega, ?_⟩
   refine ⟨k + 1, by omega, AX, _, _, AX, by rw [Gu, if_pos hb]; exact ho2, rfl⟩
  refine Al <| Ab <| Ac <| Aq <| AD (Af 2) <| Az (Af 2) fun ds => Ag rfl (FM Aa Aa rfl (by show k < 64; omega) Dz) <| Ag rfl (HW Aa Aa (m := n / 2 ^ k) (k := 1) rfl rfl (by have := Nat.div_le_self n (2 ^ k); omega) (by omega) rfl) <| Aw (Af 1) <| Ad Aa (by rw [C9]; simpa using hb) <| Al <| A0 <| Ab <| Am fun ds => Ag rfl (AG Aa Aa rfl (by omega) (by omega)) <| Aj (Af 1) <| Ao ?_
  refine Ab ⟨_, m - 1, Off.eq (BR rfl <| BM rfl <| A2), by omega, ?_⟩
  exact ⟨k + 1, by omega, AX, _, _, AX, by rw [Gu, if_neg hb]; exact ho, rfl⟩
 refine AD (Af 1) <| Ac <| Ad Aa (by first | rfl | exact dF (by omega)) ?_
 obtain rfl : k = q := by omega
 refine BJ (σ := ⟨_, _⟩) (by rfl) ho (.z) .last fun F10 hF11 hz12 => ?_
 have hn2 := ho.sl (fun _ => rfl) hz12 (by have := Ha (set := n) (k := k); omega)
 refine AH ?_
 refine A8 <| A8 <| AB <| Ab <| AD (Af 2) <| At <| Ap rfl Bd ?_
 show Nats _ _ _
 rw [← Q1 hq2 hq1]; exact hn2
end
section
set_option maxRecDepth 100000
open Go.RowKit
theorem zr_110 : ZeroT Tryz.prog 110 (.nilFunc) := Br (by kernel_rfl)
theorem zr_91 : ZeroT Tryz.prog 91 (.slice none 0 0) := Br (by kernel_rfl)
theorem VN : Body Tryz.prog 100 := AE (by kernel_rfl)
theorem bd_71 : Body Tryz.prog 71 := AE (by kernel_rfl)
theorem Rw : Body Tryz.prog 72 := AE (by kernel_rfl)
theorem QS : OneT Tryz.prog 110 := BE (by kernel_rfl)
instance : OneI Tryz.prog 110 := ⟨QS⟩
theorem Us : OneT Tryz.prog 91 := BE (by kernel_rfl)
instance : OneI Tryz.prog 91 := ⟨Us⟩
theorem sz_110 : SizeT Tryz.prog 110 1 := Bx (by kernel_rfl)
theorem sz_91 : SizeT Tryz.prog 91 1 := Bx (by kernel_rfl)
theorem UJ {F : Heap} {b kb : Nat} {vs vb vl vn vd : Value} {s : Sale} (hX : AucX 161 F b vs vb vl vn vd kb s) (hv : ValidS s) {ve : Value} {l : List Ent} (he : Sl F ve 4 Ent.enc l) (hcat : catE s l = 0) {es : List (Value × Value)} (hK : KnownC Tryz.prog 3 F es s) : OkM Tryz.prog 69 [.pointer (some ⟨b, 0, none⟩), ve].toArray F [(kb, mapO es)] fun u F' H' => ∃ es', H' = [(kb, mapO es')] ∧ KnownC Tryz.prog 3 F' es' s ∧ Lsts F' u (fitS s l []) := by
 refine OkM.intro Tryz.func69 rfl Tryz.ntmps69 rfl fun w0 => ?_
 have hnb := hv.nb
 have hF0 : F.le F := Heap.le_refl _
 have hL2 := hX.sale.lots.plain.lt
 have hel := he.plain.lt
 refine Ac <| Am fun ds => A5 rfl <| Bg Aa (B9 he.plain.one) fun b1 hb1 nb1 => A5 rfl <| AO zr_91 rfl fun b2 hb2 nb2 => Ao <| Ab <| Ma <| Az (Af 1) fun ds => Ag rfl (O5 AW .nil) <| A5 rfl <| AO zr_110 rfl fun b3 hb3 nb3 => AS <| Bf sz_110 Aa Aa (i := 0) rfl (.here) rfl (.here) <| Ao <| Ab <| Ac <| Mc <| Ab <| Ac <| Ac <| AK (i := 2) rfl hb1 (.next <| .next <| .here) fun F4 hF5 hz3 => ?_
 refine AK (i := 0) rfl hb3 (.here) fun F6 hF7 hz5 => ?_
 replace hX := hX.mono (Heap.le_trans hF5 hF7)
 refine Am fun ds => Aj (Af 1) <| A5 rfl <| Bi bd_71 Aa AW (Oy hX hv) fun v8 F9 hr10 hF11 => ?_
 replace hX := hX.mono hF11
 have hU35 := Heap.le_trans hF5 (Heap.le_trans hF7 hF11)
 replace hK := hK.mono hU35
 replace he := he.mono hU35
 replace hz3 := (Heap.le_trans hF7 hF11) _ _ hz3
 replace hz5 := hF11 _ _ hz5
 obtain ⟨dz, rfl, hzd⟩ := hr10
 refine Ao <| Ab <| Aq ?_
 refine JV rfl Aa (VN) (Kj hX hv hzd) (Heap.le_refl _) (fun pre G H => ∃ es2 v4 R4 ps, KnownC Tryz.prog 3 G es2 s ∧ Own 44 1 v4 ps.length (ps.flatMap slE) R4 ∧ AllN G ps ∧ ps.map (·.2) = (pre.filter (rightS s l [])) ∧ H = (b2, bx 91 [v4]) :: (kb, mapO es2) :: R4) (fun _ _ _ => False) (fun _ _ _ _ hF h => by obtain ⟨a1, a2, a3, a4, a5, a6, a7, a8, a9⟩ := h; exact ⟨a1, a2, a3, a4, a5.mono hF, a6, a7.mono hF, a8, a9⟩) (fun _ _ _ _ _ h => h) ⟨es, _, [], [], hK, BZ, (fun p hp => nomatch hp), rfl, rfl⟩ (fun L D fn tm pre x rest G H1 vs hxs hle hJ hA => ?_) (fun _ _ _ _ h => h.elim) (fun F2 H1 hF2 hJ => ?_)
 ·replace hX := hX.mono hle
  replace hz3 := hle _ _ hz3
  replace hz5 := hle _ _ hz5
  obtain ⟨es2, v4, R4, ps, hK2, ho, hpa, hps, rfl⟩ := hJ
  obtain ⟨v9, set, rfl, hv9, hset, hsof⟩ := hA
  have hxm : x ∈ everyR s.bidders.length := by rw [hxs]; simp
  have hxl := (Qn hxm).2.2
  have hpl : ps.length ≤ 134217728 := by have h9 := congrArg List.length hps; rw [List.length_map] at h9; have h8 := List.length_filter_le (rightS s l []) pre; have h7 := GW (n := s.bidders.length) (k := s.bidders.length + 1) (by omega) (by omega); rw [EP, hxs, List.length_append] at h7; omega
  refine ⟨rfl, rfl, fun w1 => ?_⟩
  refine Jz (e' := (upd (upd _ 16 v9) 17 (.int .i64 (set : Int)))) rfl rfl <| Ac <| AQ (.inr (by kernel_rfl)) (fun _ _ h => h) fun ds => Aw (Af 1) <| AQ (.inr (by kernel_rfl)) (fun _ _ h => h) fun ds => Aj (Af 1) <| Ao ?_
  refine Ab ⟨_, rfl, ?_⟩
  refine Aq <| Ac <| AQ (.inr (by kernel_rfl)) (fun _ _ h => h) fun ds => Ag rfl (Ak QS Aa (AA hz5 rfl)) <| Aj (Af 1) <| Fr (.one (.next <| .next <| .next <| .here) <| .one (.here) <| .one (.here) <| .one (.here) <| .lastb (.last)) <| A5 rfl <| Tz Nf Aa AW rfl (G5 hX hv hK2 (set := set) hset) fun v16 F17 H20 hr18 hF19 => ?_
  have hU58 := Heap.le_trans hle hF19
  replace he := he.mono hU58
  replace hle := hle.mono hF19
  replace hv9 := hv9.mono hF19
  replace hpa := hpa.mono hF19
  replace hz3 := hF19 _ _ hz3
  obtain ⟨es3, rfl, hK3, hal⟩ := hr18
  rw [Fe hv (fun b _ => hsof b)] at hal
  refine Aw (Af 1) <| Ac <| Ac <| Jy (i := 1) rfl (fun _ => .next <| .here) fun oL hoL => AQ (.inr (by kernel_rfl)) (fun _ _ h => h) fun ds => Ag rfl (Ak Ge Aa (AA hz3 rfl)) <| Ag rfl (A4 Dx Aa he.plain) <| Aw (Af 1) <| Aq ?_
  refine AL [10, 23, 24, 25, 26, 27, 28, 29, 30, 31, 32, 33, 34, 35] (fun m e σ => ∃ k : Nat, m + k = l.length ∧ Fct e 23 (.int .i64 (k : Int)) ∧ σ = ⟨F17, (kb, mapO es3) :: (L, oL) :: (D, openO) :: (b2, bx 91 [v4]) :: R4⟩ ∧ ∀ j (hj : j < l.length), j < k → rightE l[j] (entRes s l[j] x) = true) (l.length) ?_ ?_
  · exact ⟨0, by omega, AX, rfl, fun j hj h => absurd h (by omega)⟩
  rintro m e _ ⟨k, hm, hs23, rfl, hno⟩
  by_cases hlt : k < l.length
  ·obtain ⟨n, hn, hnl⟩ := KL hcat hlt
   have hn2 : n < (allS s (castL x)).length := by rw [BF]; exact hnl
   have hres : (allS s (castL x))[n] = entRes s l[k] x := by rw [ET]; unfold entRes; rw [hn]; rfl
   refine Ac <| AQ (.inr (by kernel_rfl)) (fun _ _ h => h) fun ds => Aw (Af 1) <| Ac <| Ai Aa (by first | rfl | exact dT (by omega)) ?_
   by_cases hrt : rightE l[k] (entRes s l[k] x) = true
   ·refine Al <| Ab <| Ac <| Aq <| Ac <| AQ (.inr (by kernel_rfl)) (fun _ _ h => h) fun ds => Ag rfl (A1  Dx Aa he.plain Aa rfl hlt) <| Ag rfl (AC Gx Aa rfl rfl (he.whole hlt)) <| A5 rfl <| AO FL rfl fun b23 hb23 nb23 => AS <| AP KU Aa Aa (i := 0) rfl rfl rfl rfl Ent.enc_one (.here) <| Ao <| Ab <| Ac <| Bs (.inr (by kernel_rfl)) (fun _ _ h => h) (by kernel_rfl) (by kernel_rfl) fun ds => AR (Af 4) <| AT rfl (A1 (k := n) BQ Aa hal.plain Aa hn hn2) <| AT rfl (AC Do Aa rfl rfl (hal.whole hn2)) <| FJ rfl (Ay Rw Aa AW (HU _ _) (fun _ _ h => h)) <| AR (Af 1) <| B0 <| Ab <| Ad Aa (by rw [hres, hrt]; rfl) <| Al <| A0 <| Ab <| Bn (fun _ _ h => h.drop (kD <| kK <| kK <| kK <| kK <| .refl _)) <| AQ (.inr (by kernel_rfl)) (fun _ _ h => h) fun ds => Ag rfl (AG Aa Aa rfl (by omega) (by omega)) <| Aj (Af 1) <| Ao ?_
    refine Ab ⟨_, m - 1, Off.eq (BR rfl <| Ca rfl <| BM rfl <| A2), by omega, ?_⟩
    refine ⟨k + 1, by omega, AX, rfl, fun j hj hjk => ?_⟩
    rcases Nat.lt_succ_iff_lt_or_eq.1 hjk with hjk | rfl
    · exact hno j hj hjk
    exact hrt
   replace hrt : rightE l[k] (entRes s l[k] x) = false := by simpa using hrt
   refine Al <| Ab <| Ac <| Aq <| Ac <| AQ (.inr (by kernel_rfl)) (fun _ _ h => h) fun ds => Ag rfl (A1  Dx Aa he.plain Aa rfl hlt) <| Ag rfl (AC Gx Aa rfl rfl (he.whole hlt)) <| A5 rfl <| AO FL rfl fun b24 hb24 nb24 => AS <| AP KU Aa Aa (i := 0) rfl rfl rfl rfl Ent.enc_one (.here) <| Ao <| Ab <| Ac <| Bs (.inr (by kernel_rfl)) (fun _ _ h => h) (by kernel_rfl) (by kernel_rfl) fun ds => AR (Af 4) <| AT rfl (A1 (k := n) BQ Aa hal.plain Aa hn hn2) <| AT rfl (AC Do Aa rfl rfl (hal.whole hn2)) <| FJ rfl (Ay Rw Aa AW (HU _ _) (fun _ _ h => h)) <| AR (Af 1) <| B0 <| Ab <| Ai Aa (by rw [hres, hrt]; rfl) ?_
   subst hoL
   refine AH ?_
   refine JM rfl (A8 (A8 (JM rfl (A8 (AB ?_)))))
   refine C3 (.one (.next <| .next <| .here) <| .one (.next <| .next <| .here) <| .one (.next <| .next <| .here) <| .one (.next <| .here) <| .lastb (.next <| .last)) ?_
   refine .inl ⟨rfl, _, rfl, hle, ?_⟩
   have hr0 : rightS s l [] x = false := Nz hlt List.not_mem_nil hrt
   have e1 : ((pre ++ [x]).filter (rightS s l [])) = pre.filter (rightS s l []) := by rw [List.filter_append]; simp [hr0]
   exact ⟨_, _, _, _, hK3, ho, hpa, by rw [e1]; exact hps, rfl⟩
  refine Ac <| AQ (.inr (by kernel_rfl)) (fun _ _ h => h) fun ds => Aw (Af 1) <| Ac <| Ad Aa (by first | rfl | exact dF (by omega)) ?_
  have hr1 : rightS s l [] x = true := O1 fun j hj => .inr (hno j hj (by omega))
  refine AH ?_
  refine A8 <| A8 <| AB <| Ab <| Ac <| AQ (.inr (by kernel_rfl)) (fun _ _ h => h) fun ds => Aj (Af 1) <| Ag rfl (A4 A9 Aa hv9.plain) <| A5 rfl <| Ft (k := x.length) A9 Di rfl rfl Aa Aa rfl (by omega) (by omega) fun b25 hb25 nb25 => Aw (Af 1) <| Ac <| AQ (.inr (by kernel_rfl)) (fun _ _ h => h) fun ds => Aj (Af 2) <| A5 rfl <| Nn (s := 1) rfl A9 Aa Aa (i := 0) rfl (by simp) (hv9.src (fun _ => rfl) OH) (.here) <| Ao <| Ab <| AK (i := 0) rfl hb25 (.here) fun F26 hF27 hz38 => ?_
  replace hle := hle.mono hF27
  replace hpa := hpa.mono hF27
  replace hK3 := hK3.mono hF27
  have hn38 := Ux (l := x) hz38 rfl (by omega)
  subst hoL
  refine AQ (.inr (by kernel_rfl)) (fun _ _ h => h) fun ds => Aj (Af 2) <| A5 rfl <| AM Dh JX rfl (.cons Aa .nil) rfl rfl (by decide) (by simp [Value.oneCell']) fun b28 hb28 nb28 => A5 rfl <| Bp Dh el_44 Aa ho Aa (B1 (s := 1) 0 rfl rfl (by simp [Value.oneCell'])) (by omega) (by omega) (.s <| .s <| .s <| .s <| .s <| .z) .last fun v29 R30 ho31 => ?_
  have ho2 := ho31.snoc (x := ((_, x) : Value × List Nat)) rfl rfl
  refine AS <| Bf sz_91 Aa Aa (i := 4) rfl (.here) (Own.one ho2) (.next <| .next <| .next <| .next <| .here) <| Ao <| A0 <| C3 (.one (.next <| .next <| .here) <| .one (.next <| .next <| .here) <| .one (.next <| .next <| .here) <| .one (.next <| .here) <| .lastb (.next <| .last)) ?_
  refine .inl ⟨rfl, _, rfl, hle, ?_⟩
  have e1 : ((pre ++ [x]).filter (rightS s l [])) = pre.filter (rightS s l []) ++ [x] := by rw [List.filter_append]; simp [hr1]
  refine ⟨_, _, _, ps ++ [(_, x)], hK3, ho2, fun p hp => ?_, by rw [e1, List.map_append, hps]; rfl, rfl⟩
  rcases List.mem_append.1 hp with hp | hp
  · exact hpa p hp
  simp at hp; subst hp; exact hn38
 obtain ⟨es2, v4, R4, ps, hK2, ho, hpa, hps, rfl⟩ := hJ
 refine A0 <| Ab <| Ch (σ := ⟨_, _⟩) (by intro m hm; exact .tail _ hm) ho (.s <| .s <| .z) .last fun F32 hF33 hz34 => ?_
 have hU133 := Heap.le_trans hF2 hF33
 replace hK2 := hK2.mono hF33
 replace hpa := hpa.mono hF33
 have hsp := ho.sl (fun _ => rfl) hz34 (by have h9 := congrArg List.length hps; rw [List.length_map] at h9; have h8 := List.length_filter_le (rightS s l []) (everyR s.bidders.length); have h7 := GW (n := s.bidders.length) (k := s.bidders.length + 1) (by omega) (by omega); rw [EP] at h7; omega)
 refine Az (Af 1) fun ds => AS <| Bf sz_91 Aa Aa (i := 0) rfl (.here) hsp.plain.one (.here) <| Ao <| Ab <| At <| KA <| Dq rfl (.one Us Aa (Cell.own 0 rfl rfl) .nil) (.cons (.next <| .here) <| .nil) rfl ?_
 exact ⟨es2, rfl, hK2, ⟨ps, hsp, hpa, hps⟩⟩
end
section
theorem MN : ∀ a : List Nat, cmpL a a = 0
 | [] => rfl
 | a :: as1 => by rw [MM]; exact MN as1
theorem Pi : ∀ a b : List Nat, cmpL b a = - cmpL a b
 | [], [] => rfl
 | [], _ :: _ => rfl
 | _ :: _, [] => rfl
 | x :: xs, y :: ys => by
   unfold cmpL
   by_cases h1 : x < y
   · rw [if_neg (by omega), if_pos h1, if_pos h1]; rfl
   by_cases h2 : y < x
   · rw [if_pos h2, if_neg h1, if_pos h2]
   rw [if_neg h2, if_neg h1, if_neg h1, if_neg h2]; exact Pi xs ys
theorem LL : ∀ {a b c : List Nat}, cmpL a b ≤ 0 → cmpL b c ≤ 0 → cmpL a c ≤ 0
 | [], _, c, _, _ => by cases c <;> simp [cmpL]
 | _ :: _, [], _, h, _ => by simp [cmpL] at h
 | _ :: _, _ :: _, [], _, h => by simp [cmpL] at h
 | x :: xs, y :: ys, z :: zs, h1, h2 => by
   unfold cmpL at h1 h2 ⊢
   by_cases a1 : x < y
   · by_cases a2 : y < z
     · rw [if_pos (by omega)]; omega
     rw [if_neg a2] at h2
     by_cases a3 : z < y
     · rw [if_pos a3] at h2; omega
     rw [if_pos (by omega)]; omega
   rw [if_neg a1] at h1
   by_cases a2 : y < x
   · rw [if_pos a2] at h1; omega
   rw [if_neg a2] at h1
   obtain rfl : x = y := by omega
   by_cases a3 : x < z
   · rw [if_pos a3]; omega
   rw [if_neg a3] at h2 ⊢
   by_cases a4 : z < x
   · rw [if_pos a4] at h2; omega
   rw [if_neg a4] at h2 ⊢
   exact LL h1 h2
theorem Qt {a b : List Nat} (h : ¬ cmpL a b < 0) : cmpL b a ≤ 0 := by rw [Pi]; omega
def Asc (l : List Nat) : Prop := l.Pairwise (· < ·)
def Deep (r : Room) (b : List Nat) (k m : Nat) (y : List Nat) : Prop := ∃ e, y = b ++ e ∧ Asc e ∧ (∀ i ∈ e, k ≤ i ∧ i < r.reqs.length) ∧ (e = [] ∨ canB r y = true) ∧ ∀ i ∈ e.head?, i < m
end
section
def Before (p p' : List Nat) : Prop := p.length < p'.length ∨ (p.length = p'.length ∧ cmpL p p' ≤ 0)
end
section
open Go
def ent (l : List Ent) (i : Nat) : Ent := l[i]?.getD ⟨0, false, 0, 0⟩
theorem ent_at {l : List Ent} {i : Nat} (h : i < l.length) : l[i] = ent l i := by simp [ent, h]
def badB (s : Sale) (l : List Ent) (ring : List Nat) (i : Nat) : Bool := !(rightE (ent l i) (entRes s (ent l i) ring))
def badL (s : Sale) (l : List Ent) (ring : List Nat) : List Nat := selTo (badB s l ring) l.length
def badMask (s : Sale) (l : List Ent) (ring : List Nat) : Nat → Nat
 | 0 => 0
 | k + 1 => if badB s l ring k = true then badMask s l ring k ||| 2 ^ k else badMask s l ring k
theorem ES {s : Sale} {l : List Ent} {ring : List Nat} : ∀ (k t : Nat), (badMask s l ring k).testBit t = (decide (t < k) && badB s l ring t)
 | 0, t => by simp [badMask]
 | k + 1, t => by
   unfold badMask
   by_cases h : badB s l ring k = true
   · rw [if_pos h, Nat.testBit_or, Nat.testBit_two_pow, ES k t]
     by_cases hk : k = t
     · subst hk; simp [h]
     have : decide (t < k + 1) = decide (t < k) := by congr 1; rw [eq_iff_iff]; omega
     simp [hk, this]
   rw [if_neg h, ES k t]
   by_cases hk : k = t
   · subst hk; simp [h]
   have : decide (t < k + 1) = decide (t < k) := by congr 1; rw [eq_iff_iff]; omega
   rw [this]
theorem HA {s : Sale} {l : List Ent} {ring : List Nat} : ∀ {k : Nat}, k ≤ 6 → badMask s l ring k < 64
 | 0, _ => by simp [badMask]
 | k + 1, h => by
   unfold badMask
   have ih := HA (s := s) (l := l) (ring := ring) (k := k) (by omega)
   split
   · exact FB ih (by omega)
   exact ih
theorem Pt {s : Sale} {l : List Ent} {ring : List Nat} (hl : l.length ≤ 6) : bitsL (badMask s l ring l.length) = badL s l ring := by
 unfold bitsL badL selTo
 rw [List.range_eq_range', show 8 = l.length + (8 - l.length) by omega, ← List.range'_append_1, List.filter_append, ← List.range_eq_range']
 have h1 : (List.range' (0 + l.length) (8 - l.length)).filter (fun i => (badMask s l ring l.length).testBit i) = [] := by
   rw [List.filter_eq_nil_iff]
   intro i hi
   have := (List.mem_range'_1.1 hi).1
   rw [ES]; simp; omega
 rw [h1, List.append_nil]
 apply List.filter_congr
 intro i hi
 have hi : i < l.length := by simpa using hi
 rw [ES]; simp [hi]
def wrongStep (s : Sale) (l : List Ent) (w : Option (List Nat)) (x : List Nat) : Option (List Nat) := match w with
 | none => some (badL s l x)
 | some m => if (badL s l x).length < m.length ∨ (badL s l x).length = m.length ∧ cmpL (badL s l x) m < 0 then some (badL s l x) else some m
def wrongTo (s : Sale) (l : List Ent) (xs : List (List Nat)) : Option (List Nat) := xs.foldl (wrongStep s l) none
theorem CZ {s : Sale} {l : List Ent} {xs : List (List Nat)} {x : List Nat} : wrongTo s l (xs ++ [x]) = wrongStep s l (wrongTo s l xs) x := by unfold wrongTo; rw [List.foldl_append]; rfl
theorem EW {s : Sale} {l : List Ent} {x m : List Nat} (h : (badL s l x).length < m.length ∨ (badL s l x).length = m.length ∧ cmpL (badL s l x) m < 0) : wrongStep s l (some m) x = some (badL s l x) := if_pos h
theorem EV {s : Sale} {l : List Ent} {x m : List Nat} (h : ¬ ((badL s l x).length < m.length ∨ (badL s l x).length = m.length ∧ cmpL (badL s l x) m < 0)) : wrongStep s l (some m) x = some m := if_neg h
def wrongP (s : Sale) (l : List Ent) : List Nat := (wrongTo s l (everyR s.bidders.length)).getD []
theorem HJ {s : Sale} {l : List Ent} : ∀ (n : Nat) (xs : List (List Nat)), xs.length = n → (xs = [] ∧ wrongTo s l xs = none) ∨ ∃ x ∈ xs, wrongTo s l xs = some (badL s l x) ∧ ∀ y ∈ xs, Before (badL s l x) (badL s l y)
 | 0, xs, h => by
   have : xs = [] := List.eq_nil_of_length_eq_zero h
   subst this; exact .inl ⟨rfl, rfl⟩
 | n + 1, xs, h => by
   right
   obtain ⟨ys, z, rfl⟩ : ∃ ys z, xs = ys ++ [z] := ⟨xs.dropLast, xs.getLast (by intro e; subst e; simp at h), (List.dropLast_concat_getLast _).symm⟩
   have hn : ys.length = n := by simpa using h
   rw [CZ]
   have hself : Before (badL s l z) (badL s l z) := .inr ⟨rfl, by rw [MN]; omega⟩
   rcases HJ n ys hn with ⟨rfl, h1⟩ | ⟨x, hx, h1, h2⟩
   · rw [h1]
     exact ⟨z, by simp, rfl, fun y hy => by simp at hy; subst hy; exact hself⟩
   rw [h1]
   by_cases hc : (badL s l z).length < (badL s l x).length ∨ (badL s l z).length = (badL s l x).length ∧ cmpL (badL s l z) (badL s l x) < 0
   · rw [EW hc]
     refine ⟨z, by simp, rfl, fun y hy => ?_⟩
     rcases List.mem_append.1 hy with hy | hy
     · have := h2 y hy
       unfold Before at this ⊢
       rcases this with h3 | ⟨h3, h4⟩
       · left; omega
       rcases hc with hc | ⟨hc1, hc2⟩
       · left; omega
       right; exact ⟨by omega, LL (by omega) h4⟩
     simp at hy; subst hy; exact hself
   rw [EV hc]
   refine ⟨x, by simp [hx], rfl, fun y hy => ?_⟩
   rcases List.mem_append.1 hy with hy | hy
   · exact h2 y hy
   simp at hy; subst hy
   unfold Before
   by_cases h3 : (badL s l x).length = (badL s l y).length
   · right; exact ⟨h3, Qt fun h4 => hc (.inr ⟨h3.symm, h4⟩)⟩
   left; omega
def wrongE (s : Sale) (l : List Ent) : List Nat × Int := if askedE s l ≠ 0 then ([], askedE s l) else (wrongP s l, 0)
theorem P6 {s : Sale} {l : List Ent} {e : Int} (h : askedE s l = e) (he : e ≠ 0) : wrongE s l = ([], e) := by subst h; exact if_pos he
theorem RJ {s : Sale} {l : List Ent} (h : askedE s l = 0) : wrongE s l = (wrongP s l, 0) := if_neg (fun k => k h)
def NatsR (F : Heap) (u : Value) (p : List Nat × Int) : Prop := ∃ v, u = .tuple #[v, .int .i64 p.2] ∧ Nats F v p.1
theorem NatsR.mono {F F' : Heap} {u : Value} {p : List Nat × Int} (h : NatsR F u p) (hF : F.le F') : NatsR F' u p := by obtain ⟨v, h1, h2⟩ := h; exact ⟨v, h1, h2.mono hF⟩
end
section
set_option maxRecDepth 100000
open Go.RowKit
theorem RB : Body Tryz.prog 35 := AE (by kernel_rfl)
theorem Rx : Body Tryz.prog 68 := AE (by kernel_rfl)
theorem bd_69 : Body Tryz.prog 69 := AE (by kernel_rfl)
theorem Rz : Body Tryz.prog 58 := AE (by kernel_rfl)
theorem Ny {s : Sale} {l : List Ent} (h : (ringsE s l).2 = 0) : askedE s l = 0 := by
 by_cases h0 : askedE s l = 0
 · exact h0
 rw [KZ rfl h0] at h; exact h
theorem El {F : Heap} {vs vb vl vn vd : Value} {s : Sale} (hr : SaleR F vs vb vl vn vd s) {ve : Value} {l : List Ent} (he : Sl F ve 4 Ent.enc l) : Ok Tryz.prog 35 [.agg #[vs, .int .i64 s.premium, .int .i64 s.fee, .int .i64 s.days, vb, vl, vn, vd], ve].toArray F fun u F' => LstsR F' u (ringsE s l) := by
 refine Ok.intro Tryz.func35 rfl Tryz.ntmps35 rfl fun w0 => ?_
 by_cases hok : askedE s l = 0
 ·have hv := BV (Eu hok).1
  have hcat := (Eu hok).2
  refine Ac <| Am fun ds => A5 rfl <| Bg Aa rfl fun b1 hb1 nb1 => Aw (Af 2) <| Az (Af 2) fun ds => A5 rfl <| BY Rx Aa AW (Js hr he hok) fun v2 F3 R6 hr4 hF5 => ?_
  replace he := he.mono hF5
  obtain ⟨ba, kb, rfl, hX, rfl⟩ := hr4
  refine Aw (Af 5) <| Ac <| AD (Af 2) <| Ad Aa (by decide) ?_
  by_cases hf : fitS s l [] = []
  ·refine Al <| Ab <| Az (Af 2) fun ds => Fs (.cons (.next <| .here) <| .cons (.here) <| .nil) <| A5 rfl <| Eh bd_69 Aa AW rfl (UJ hX hv he hcat KnownC.nil) fun v11 F12 H15 hr13 hF14 => ?_
   obtain ⟨es2, rfl, hK2, ps, hsp, hpa, hps⟩ := hr13
   refine Aw (Af 1) <| Ac <| Az (Af 1) fun ds => Ag rfl (A4 Dh Aa hsp.plain) <| Aw (Af 1) <| Ai Aa (dT (by have h9 := congrArg List.length hps; rw [List.length_map, hf] at h9; simp at h9; rw [h9]; rfl)) <| AD (Af 2) <| At <| Ax <| Ap rfl Bd ?_
   rw [Oz hok hf]
   exact ⟨_, rfl, [], Sl.nil, (fun p hp => nomatch hp), rfl⟩
  refine Al <| Ab <| Az (Af 2) fun ds => Fs (.cons (.next <| .here) <| .cons (.here) <| .nil) <| A5 rfl <| Eh bd_69 Aa AW rfl (UJ hX hv he hcat KnownC.nil) fun v20 F21 H24 hr22 hF23 => ?_
  obtain ⟨es2, rfl, hK2, ps, hsp, hpa, hps⟩ := hr22
  refine Aw (Af 1) <| Ac <| Az (Af 1) fun ds => Ag rfl (A4 Dh Aa hsp.plain) <| Aw (Af 1) <| Ad Aa (dF (fun h => hf (by rw [← hps]; have h8 : ps = [] := List.eq_nil_of_length_eq_zero (by omega); rw [h8]; rfl))) <| Al <| Ab <| AD (Af 3) <| At <| Ap rfl Bd ?_
  rw [Sd hok hf]
  exact ⟨_, rfl, ps, hsp, hpa, hps⟩
 refine Ac <| Am fun ds => A5 rfl <| Bg Aa rfl fun b25 hb25 nb25 => Aw (Af 2) <| Az (Af 2) fun ds => A5 rfl <| Bi Rx Aa AW (GY hr he hok) fun v26 F27 hr28 hF29 => ?_
 obtain ⟨va, hva1, rfl⟩ := hr28
 refine Aw (Af 5) <| Ac <| AD (Af 2) <| Ai Aa (dT hok) <| AD (Af 3) <| At <| Ax <| Ap rfl Bd ?_
 rw [KZ rfl hok]
 exact ⟨_, rfl, [], Sl.nil, (fun p hp => nomatch hp), rfl⟩
theorem PW {F : Heap} {vs vb vl vn vd : Value} {s : Sale} (hr : SaleR F vs vb vl vn vd s) {ve : Value} {l : List Ent} (he : Sl F ve 4 Ent.enc l) : Ok Tryz.prog 37 [.agg #[vs, .int .i64 s.premium, .int .i64 s.fee, .int .i64 s.days, vb, vl, vn, vd], ve].toArray F fun u F' => MemR F' u (membersE s l) := by
 refine Ok.intro Tryz.func37 rfl Tryz.ntmps37 rfl fun w0 => ?_
 have hL2 := hr.bidders.plain.lt
 by_cases h0 : (ringsE s l).2 = 0
 ·refine Ac <| Am fun ds => A5 rfl <| Bg Aa rfl fun b1 hb1 nb1 => Aw (Af 3) <| Az (Af 2) fun ds => A5 rfl <| Bi RB Aa AW (El hr he) fun v2 F3 hr4 hF5 => ?_
  replace hr := hr.mono hF5
  obtain ⟨vq, rfl, qs, hqs, hqa, hqm⟩ := hr4
  replace hqa : AllN _ qs := hqa
  refine Aw (Af 5) <| Ac <| AD (Af 2) <| Ad Aa (dF (fun h => h h0)) ?_
  have hqpl := hqs.plain.lt
  have hnb := (BV (Eu (Ny h0)).1).nb
  refine Al <| Ab <| Ac <| Az (Af 2) fun ds => Ag rfl (A4 BB Aa hr.bidders.plain) <| Aw (Af 1) <| Aq ?_
  refine AL [4, 5, 8, 9, 11, 24, 25, 26, 27, 28, 29, 30, 31, 32, 33, 34, 35, 36, 37, 38, 39, 40, 41, 42, 43, 44, 45, 46, 47, 48, 49, 50, 51, 52, 53] (fun m e σ => ∃ b : Nat, m + b = s.bidders.length ∧ Fct e 24 (.int .i64 (b : Int)) ∧ ∃ v4 v5 R4 R5, Fct e 4 v4 ∧ Fct e 5 v5 ∧ Own 3 1 v4 (selTo (mustB (ringsE s l).1) b).length ((selTo (mustB (ringsE s l).1) b).flatMap natE) R4 ∧ Own 3 1 v5 (selTo (mayB (ringsE s l).1) b).length ((selTo (mayB (ringsE s l).1) b).flatMap natE) R5 ∧ σ = ⟨F3, (b1, bx 33 [vs, .int .i64 s.premium, .int .i64 s.fee, .int .i64 s.days, vb, vl, vn, vd]) :: (R4 ++ R5)⟩) (s.bidders.length) ?_ ?_
  · exact ⟨0, by omega, AX, _, _, [], [], AX, AX, Own.nil, Own.nil, rfl⟩
  rintro m e _ ⟨b, hm9, hs24, v4, v5, R4, R5, hs4, hs5, ho4, ho5, rfl⟩; have hl4 := Ei (p := mustB (ringsE s l).1) (k := b); have hl5 := Ei (p := mayB (ringsE s l).1) (k := b)
  by_cases hlt : b < s.bidders.length
  ·refine AD (Af 1) <| Ac <| Ai Aa (by first | rfl | exact dT (by omega)) <| Al <| Ab <| Ac <| Aq <| AD (Af 2) <| AD (Af 1) <| Ac <| Az (Af 1) fun ds => Ag rfl (A4 Dh Aa hqs.plain) <| Aw (Af 1) <| Aq ?_
   refine AL [9, 11, 29, 30, 31, 32, 33, 34, 35, 36, 37, 38] (fun m e σ => ∃ k : Nat, m + k = qs.length ∧ Fct e 29 (.int .i64 (k : Int)) ∧ Fct e 9 (.int .i64 (manyTo (ringsE s l).1 b k)) ∧ σ = ⟨F3, (b1, bx 33 [vs, .int .i64 s.premium, .int .i64 s.fee, .int .i64 s.days, vb, vl, vn, vd]) :: (R4 ++ R5)⟩) (qs.length) ?_ ?_
   · exact ⟨0, by omega, AX, AX, rfl⟩
   rintro m2 e2 _ ⟨k, hm2, ht29, ht9, rfl⟩
   by_cases hlk : k < qs.length
   ·have hql := hqa _ (List.getElem_mem hlk)
    have hka : k < (ringsE s l).1.length := by rw [← hqm]; simpa using hlk
    have hqk : (ringsE s l).1[k] = qs[k].2 := by simp [← hqm]
    have hmb := NC (all := (ringsE s l).1) (b := b) (k := k)
    have hqL0 : (ringsE s l).1.length = qs.length := by rw [← hqm, List.length_map]
    refine AD (Af 1) <| Ac <| Ai Aa (by first | rfl | exact dT (by omega)) ?_
    by_cases hm : b ∈ qs[k].2
    ·refine Al <| Ab <| Ac <| Aq <| Ac <| Am fun ds => Ag rfl (A1  Dh Aa hqs.plain Aa rfl hlk) <| Ag rfl (Ak Bq Aa (hqs.cell1 hlk rfl)) <| Aw (Af 1) <| Az (Af 2) fun ds => AN rfl (Ay Rz Aa AW (Jo hql b) (fun _ _ h => h)) <| Ao <| Ab <| Ai Aa (dT hm) <| Am fun ds => Aj (Af 1) <| Ag rfl (AG Aa Aa rfl (by omega) (by omega)) <| Aj (Af 1) <| Ao <| A0 <| Ab <| Am fun ds => Ag rfl (AG Aa Aa rfl (by omega) (by omega)) <| Aj (Af 1) <| Ao ?_
     refine Ab ⟨_, m2 - 1, Off.eq (BR rfl <| Ca rfl <| A2), by omega, ?_⟩
     exact ⟨k + 1, by omega, AX, by rw [Ko hka, if_pos (by rw [hqk]; exact hm)]; exact AX, rfl⟩
    refine Al <| Ab <| Ac <| Aq <| Ac <| Am fun ds => Ag rfl (A1  Dh Aa hqs.plain Aa rfl hlk) <| Ag rfl (Ak Bq Aa (hqs.cell1 hlk rfl)) <| Aw (Af 1) <| Az (Af 2) fun ds => AN rfl (Ay Rz Aa AW (Jo hql b) (fun _ _ h => h)) <| Ao <| Ab <| Ad Aa (dF hm) <| Al <| A0 <| Ab <| Am fun ds => Ag rfl (AG Aa Aa rfl (by omega) (by omega)) <| Aj (Af 1) <| Ao ?_
    refine Ab ⟨_, m2 - 1, Off.eq (BR rfl <| BX rfl <| A2), by omega, ?_⟩
    exact ⟨k + 1, by omega, AX, by rw [Ko hka, if_neg (by rw [hqk]; exact hm)]; exact AX, rfl⟩
   refine AD (Af 1) <| Ac <| Ad Aa (by first | rfl | exact dF (by omega)) ?_
   obtain rfl : k = qs.length := by omega
   have hqn : manyTo (ringsE s l).1 b qs.length = manyOf (ringsE s l).1 b := by unfold manyOf; rw [← hqm, List.length_map]
   have hqL : (qs.length : Int) = ((ringsE s l).1.length : Int) := by rw [← hqm, List.length_map]
   by_cases hmu : mustB (ringsE s l).1 b = true
   ·refine AH ?_
    refine A8 <| A8 <| AB <| Ab <| Ac <| Az (Af 2) fun ds => Ag rfl (A4 Dh Aa hqs.plain) <| Aw (Af 1) <| Ai Aa (by rw [hqn, hqL]; exact hmu) ?_
    by_cases hma : mayB (ringsE s l).1 b = true
    ·refine Am fun ds => Aj (Af 2) <| A5 rfl <| AM A9 B2 rfl (.cons Aa .nil) rfl rfl (by decide) (by simp [Value.oneCell']) fun b8 hb8 nb8 => A5 rfl <| Bp A9 Di Aa ho4 Aa (B1 (s := 1) 0 rfl rfl (by simp [Value.oneCell'])) (by omega) (by omega) (.s <| .s <| .z) .more fun v9 R10 ho11 => ?_
     have ho4b := ho11.snoc (x := b) rfl rfl
     refine Aw (Af 1) <| AD (Af 2) <| Ai Aa (by rw [hqn]; exact hma) <| Am fun ds => Aj (Af 2) <| A5 rfl <| AM A9 B2 rfl (.cons Aa .nil) rfl rfl (by decide) (by simp [Value.oneCell']) fun b12 hb12 nb12 => A5 rfl <| Bp A9 Di Aa ho5 Aa (B1 (s := 1) 0 rfl rfl (by simp [Value.oneCell'])) (by omega) (by omega) (.s <| .s <| .s <| .k <| .z) .last fun v13 R14 ho15 => ?_
     have ho5b := ho15.snoc (x := b) rfl rfl
     refine Aj (Af 1) <| Ao <| A0 <| Ab <| Bn (fun _ _ h => h.drop (kD <| kD <| kK <| .refl _)) <| Am fun ds => Ag rfl (AG Aa Aa rfl (by omega) (by omega)) <| Aj (Af 1) <| Ao ?_
     refine Ab ⟨_, m - 1, Off.eq (B3 rfl <| BM rfl <| BX rfl <| Cg rfl <| Ca rfl <| BM rfl <| BX rfl <| A2), by omega, ?_⟩
     exact ⟨b + 1, by omega, AX, _, _, _, _, AX, AX, by rw [C6, if_pos hmu]; exact ho4b, by rw [C6, if_pos hma]; exact ho5b, rfl⟩
    replace hma : mayB (ringsE s l).1 b = false := by simpa using hma
    refine Am fun ds => Aj (Af 2) <| A5 rfl <| AM A9 B2 rfl (.cons Aa .nil) rfl rfl (by decide) (by simp [Value.oneCell']) fun b16 hb16 nb16 => A5 rfl <| Bp A9 Di Aa ho4 Aa (B1 (s := 1) 0 rfl rfl (by simp [Value.oneCell'])) (by omega) (by omega) (.s <| .s <| .z) .more fun v17 R18 ho19 => ?_
    have ho4b := ho19.snoc (x := b) rfl rfl
    refine Aw (Af 1) <| AD (Af 2) <| Ad Aa (by rw [hqn]; exact hma) <| Al <| A0 <| Ab <| Bn (fun _ _ h => h.drop (kD <| kK <| .refl _)) <| Am fun ds => Ag rfl (AG Aa Aa rfl (by omega) (by omega)) <| Aj (Af 1) <| Ao ?_
    refine Ab ⟨_, m - 1, Off.eq (BR rfl <| Ca rfl <| BM rfl <| Cg rfl <| Ca rfl <| BM rfl <| BX rfl <| A2), by omega, ?_⟩
    exact ⟨b + 1, by omega, AX, _, _, _, _, AX, AX, by rw [C6, if_pos hmu]; exact ho4b, by rw [C6, if_neg (by rw [hma]; decide)]; exact ho5, rfl⟩
   replace hmu : mustB (ringsE s l).1 b = false := by simpa using hmu
   refine AH ?_
   refine A8 <| A8 <| AB <| Ab <| Ac <| Az (Af 2) fun ds => Ag rfl (A4 Dh Aa hqs.plain) <| Aw (Af 1) <| Ad Aa (by rw [hqn, hqL]; exact hmu) ?_
   by_cases hma : mayB (ringsE s l).1 b = true
   ·refine Al <| Ab <| AD (Af 2) <| Ai Aa (by rw [hqn]; exact hma) <| Am fun ds => Aj (Af 2) <| A5 rfl <| AM A9 B2 rfl (.cons Aa .nil) rfl rfl (by decide) (by simp [Value.oneCell']) fun b20 hb20 nb20 => A5 rfl <| Bp A9 Di Aa ho5 Aa (B1 (s := 1) 0 rfl rfl (by simp [Value.oneCell'])) (by omega) (by omega) (.s <| .s <| .k <| .z) .last fun v21 R22 ho23 => ?_
    have ho5b := ho23.snoc (x := b) rfl rfl
    refine Aj (Af 1) <| Ao <| A0 <| Ab <| Bn (fun _ _ h => h.drop (kD <| kK <| .refl _)) <| Am fun ds => Ag rfl (AG Aa Aa rfl (by omega) (by omega)) <| Aj (Af 1) <| Ao ?_
    refine Ab ⟨_, m - 1, Off.eq (BR rfl <| Ca rfl <| BM rfl <| Cg rfl <| Ca rfl <| BM rfl <| BX rfl <| A2), by omega, ?_⟩
    exact ⟨b + 1, by omega, AX, _, _, _, _, AX, AX, by rw [C6, if_neg (by rw [hmu]; decide)]; exact ho4, by rw [C6, if_pos hma]; exact ho5b, rfl⟩
   replace hma : mayB (ringsE s l).1 b = false := by simpa using hma
   refine Al <| Ab <| AD (Af 2) <| Ad Aa (by rw [hqn]; exact hma) <| Al <| A0 <| Ab <| Am fun ds => Ag rfl (AG Aa Aa rfl (by omega) (by omega)) <| Aj (Af 1) <| Ao ?_
   refine Ab ⟨_, m - 1, Off.eq (BR rfl <| BX rfl <| Cg rfl <| Ca rfl <| BM rfl <| BX rfl <| A2), by omega, ?_⟩
   exact ⟨b + 1, by omega, AX, _, _, _, _, AX, AX, by rw [C6, if_neg (by rw [hmu]; decide)]; exact ho4, by rw [C6, if_neg (by rw [hma]; decide)]; exact ho5, rfl⟩
  refine AD (Af 1) <| Ac <| Ad Aa (by first | rfl | exact dF (by omega)) ?_
  obtain rfl : b = s.bidders.length := by omega
  refine BJ (σ := ⟨_, _⟩) (by rfl) ho4 (.s <| .z) .more fun F24 hF25 hz26 => ?_
  have hn4 := ho4.sl (fun _ => rfl) hz26 (by omega)
  refine BJ (σ := ⟨_, _⟩) (by rfl) ho5 (.s <| .z) .last fun F27 hF28 hz29 => ?_
  have hU150 := Heap.le_trans hF25 hF28
  replace hn4 := hn4.mono hF28
  have hn5 := ho5.sl (fun _ => rfl) hz29 (by omega)
  refine AH ?_
  refine A8 <| A8 <| AB <| Ab <| AD (Af 5) <| At <| Ap rfl Bd ?_
  rw [OJ h0]
  exact ⟨_, _, rfl, hn4, hn5⟩
 refine Ac <| Am fun ds => A5 rfl <| Bg Aa rfl fun b30 hb30 nb30 => Aw (Af 3) <| Az (Af 2) fun ds => A5 rfl <| Bi RB Aa AW (El hr he) fun v31 F32 hr33 hF34 => ?_
 obtain ⟨vq, rfl, qs, hqs, hqa, hqm⟩ := hr33
 replace hqa : AllN _ qs := hqa
 refine Aw (Af 5) <| Ac <| AD (Af 2) <| Ai Aa (dT h0) <| AD (Af 4) <| At <| Ax <| Ap rfl Bd ?_
 rw [NA h0]
 exact ⟨_, _, rfl, Sl.nil, Sl.nil⟩
end
section
set_option maxRecDepth 100000
open Go.RowKit
theorem Tu : ZeroT Tryz.prog 107 (.pointer none) := Br (by kernel_rfl)
theorem zr_4 : ZeroT Tryz.prog 4 (.bool false) := Br (by kernel_rfl)
theorem bd_73 : Body Tryz.prog 73 := AE (by kernel_rfl)
theorem bd_74 : Body Tryz.prog 74 := AE (by kernel_rfl)
theorem TI : SizeT Tryz.prog 107 1 := Bx (by kernel_rfl)
theorem Dg : SizeT Tryz.prog 44 1 := Bx (by kernel_rfl)
theorem Or : SizeT Tryz.prog 4 1 := Bx (by kernel_rfl)
def WrongC (G : Heap) (o : Option (List Nat)) (vw : Value) (fo : Bool) : Prop := o = none ∧ fo = false ∧ vw = .slice none 0 0 ∨ ∃ mm, o = some mm ∧ fo = true ∧ Nats G vw mm ∧ mm.length ≤ 8
theorem WrongC.mono {F F' : Heap} {o : Option (List Nat)} {vw : Value} {fo : Bool} (h : WrongC F o vw fo) (hF : F.le F') : WrongC F' o vw fo := by
 rcases h with h | ⟨mm, h1, h2, h3, h4⟩
 · exact .inl h
 exact .inr ⟨mm, h1, h2, h3.mono hF, h4⟩
theorem WrongC.all {F : Heap} {s : Sale} {l : List Ent} {vw : Value} {fo : Bool} (h : WrongC F (wrongTo s l (everyR s.bidders.length)) vw fo) : Nats F vw (wrongP s l) := by
 rcases h with ⟨h1, -⟩ | ⟨mm, h1, -, h2, -⟩
 · rcases HJ (s := s) (l := l) _ (everyR s.bidders.length) rfl with ⟨h, -⟩ | ⟨x, -, h, -⟩
   · exact absurd h (by simp [everyR])
   rw [h] at h1; cases h1
 unfold wrongP; rw [h1]; exact h2
theorem T4 {F : Heap} {vs vb vl vn vd : Value} {s : Sale} (hr : SaleR F vs vb vl vn vd s) {ve : Value} {l : List Ent} (he : Sl F ve 4 Ent.enc l) : Ok Tryz.prog 38 [.agg #[vs, .int .i64 s.premium, .int .i64 s.fee, .int .i64 s.days, vb, vl, vn, vd], ve].toArray F fun u F' => NatsR F' u (wrongE s l) := by
 refine Ok.intro Tryz.func38 rfl Tryz.ntmps38 rfl fun w0 => ?_
 have hel := he.plain.lt
 by_cases hok : askedE s l = 0
 ·have hv := BV (Eu hok).1
  have hcat := (Eu hok).2
  have hnb := hv.nb
  have hl6 := ent_len hv hcat
  refine Ac <| Am fun ds => A5 rfl <| Bg Aa rfl fun b1 hb1 nb1 => A5 rfl <| Bg Aa (B9 he.plain.one) fun b2 hb2 nb2 => A5 rfl <| AO JX rfl fun b3 hb3 nb3 => Aw (Af 1) <| Az (Af 2) fun ds => A5 rfl <| BY Rx Aa AW (Js hr he hok) fun v4 F5 R8 hr6 hF7 => ?_
  obtain ⟨ba, kb, rfl, hX, rfl⟩ := hr6
  refine Aj (Af 3) <| A5 rfl <| AO Tu rfl fun b9 hb9 nb9 => AS <| Bf TI Aa Aa (i := 0) rfl (.here) (by first | rfl | exact hva1) (.here) <| Aw (Af 1) <| Ac <| AD (Af 2) <| Ad Aa (by decide) <| Al <| Ab <| Ac <| Am fun ds => A5 rfl <| AO zr_4 rfl fun b10 hb10 nb10 => AS <| Bf Or Aa Aa (i := 0) rfl (.here) rfl (.here) <| Ao <| Ab <| Ac <| Ac <| AK (i := 3) rfl hb2 (.next <| .next <| .next <| .here) fun F11 hF12 hz3 => ?_
  refine AK (i := 1) rfl hb9 (.next <| .here) fun F13 hF14 hz6 => ?_
  replace hX := hX.mono (Heap.le_trans hF12 hF14)
  refine Oh (.cons (.here) <| .cons (.here) <| .cons (.next <| .here) <| .nil) <| Am fun ds => Ag rfl (Ak GB Aa (AA hz6 rfl)) <| A5 rfl <| Bi bd_71 Aa AW (Oy hX hv) fun v15 F16 hr17 hF18 => ?_
  have hU48 := Heap.le_trans hF7 (Heap.le_trans hF12 (Heap.le_trans hF14 hF18))
  replace he := he.mono hU48
  replace hX := hX.mono hF18
  replace hz3 := (Heap.le_trans hF14 hF18) _ _ hz3
  replace hz6 := hF18 _ _ hz6
  obtain ⟨dz, rfl, hzd⟩ := hr17
  refine Ao <| Ab <| Aq ?_
  refine JV rfl Aa (VN) (Kj hX hv hzd) (Heap.le_refl _) (fun pre G H => ∃ es2 vw fo, KnownC Tryz.prog 3 G es2 s ∧ WrongC G (wrongTo s l pre) vw fo ∧ H = (b10, bx 4 [.bool fo]) :: (b3, bx 44 [vw]) :: [(kb, mapO es2)]) (fun _ _ _ => False) (fun _ _ _ _ hF h => by obtain ⟨a1, a2, a3, a4, a5, a6⟩ := h; exact ⟨a1, a2, a3, a4.mono hF, a5.mono hF, a6⟩) (fun _ _ _ _ _ h => h) ⟨_, _, _, KnownC.nil, .inl ⟨rfl, rfl, rfl⟩, rfl⟩ (fun L D fn tm pre x rest G H1 vs hxs hle hJ hA => ?_) (fun _ _ _ _ h => h.elim) (fun F2 H1 hF2 hJ => ?_)
  ·replace hX := hX.mono hle
   replace hz3 := hle _ _ hz3
   replace hz6 := hle _ _ hz6
   obtain ⟨es2, vw, fo, hK2, hW, rfl⟩ := hJ
   obtain ⟨v9, set, rfl, hv9, hset, hsof⟩ := hA
   refine ⟨rfl, rfl, fun w1 => ?_⟩
   refine Jz (e' := (upd (upd _ 26 v9) 27 (.int .i64 (set : Int)))) rfl rfl <| AQ (.inr (by kernel_rfl)) (fun _ _ h => h) fun ds => Aj (Af 1) <| Ao ?_
   refine Ab ⟨_, rfl, ?_⟩
   refine Aq <| Ac <| AQ (.inr (by kernel_rfl)) (fun _ _ h => h) fun ds => Ag rfl (Ak GB Aa (AA hz6 rfl)) <| Aj (Af 1) <| Fs (.cons (.next <| .next <| .next <| .next <| .here) <| .cons (.here) <| .cons (.here) <| .cons (.here) <| .cons (.here) <| .nil) <| A5 rfl <| Eh Nf Aa AW rfl (G5 hX hv hK2 (set := set) hset) fun v23 F24 H27 hr25 hF26 => ?_
   have hU68 := Heap.le_trans hle hF26
   replace he := he.mono hU68
   replace hle := hle.mono hF26
   replace hW := hW.mono hF26
   replace hz3 := hF26 _ _ hz3
   obtain ⟨es3, rfl, hK3, hal⟩ := hr25
   rw [Fe hv (fun b _ => hsof b)] at hal
   refine Aw (Af 1) <| Ac <| AQ (.inr (by kernel_rfl)) (fun _ _ h => h) fun ds => Aw (Af 1) <| Ac <| Ac <| Jy (i := 1) rfl (fun _ => .next <| .here) fun oL hoL => AQ (.inr (by kernel_rfl)) (fun _ _ h => h) fun ds => Ag rfl (Ak Ge Aa (AA hz3 rfl)) <| Ag rfl (A4 Dx Aa he.plain) <| Aw (Af 1) <| Aq ?_
   refine AL [11, 12, 13, 33, 34, 35, 36, 37, 38, 39, 40, 41, 42, 43, 44, 45, 46, 47, 48, 49, 50] (fun m e σ => ∃ k : Nat, m + k = l.length ∧ Fct e 33 (.int .i64 (k : Int)) ∧ Fct e 11 (.int .i64 (badMask s l x k : Int)) ∧ σ = ⟨F24, [(kb, mapO es3), (L, oL), (D, openO), (b10, bx 4 [.bool fo]), (b3, bx 44 [vw])]⟩) (l.length) ?_ ?_
   · exact ⟨0, by omega, AX, AX, rfl⟩
   rintro m e _ ⟨k, hm, hs33, hs11, rfl⟩
   by_cases hlt : k < l.length
   ·obtain ⟨n, hn, hnl⟩ := KL hcat hlt
    have hn2 : n < (allS s (castL x)).length := by rw [BF]; exact hnl
    have hres : (allS s (castL x))[n] = entRes s l[k] x := by rw [ET]; unfold entRes; rw [hn]; rfl
    have hbb : badB s l x k = !(rightE l[k] (entRes s l[k] x)) := by unfold badB; rw [← ent_at hlt]
    have hkp := Lh (show k < 6 by omega)
    have hml6 := HA (s := s) (l := l) (ring := x) (k := k) (by omega)
    refine Ac <| AQ (.inr (by kernel_rfl)) (fun _ _ h => h) fun ds => Aw (Af 1) <| Ac <| Ai Aa (by first | rfl | exact dT (by omega)) ?_
    by_cases hbd : badB s l x k = true
    ·refine Al <| Ab <| Ac <| Aq <| Ac <| AQ (.inr (by kernel_rfl)) (fun _ _ h => h) fun ds => Aj (Af 1) <| Ag rfl (A1  Dx Aa he.plain Aa rfl hlt) <| Ag rfl (AC Gx Aa rfl rfl (he.whole hlt)) <| A5 rfl <| AO FL rfl fun b29 hb29 nb29 => Aj (Af 1) <| AS <| AP KU Aa Aa (i := 0) rfl rfl rfl rfl Ent.enc_one (.here) <| Ao <| Ab <| Ac <| Bs (.inr (by kernel_rfl)) (fun _ _ h => h) (by kernel_rfl) (by kernel_rfl) fun ds => AR (Af 4) <| AT rfl (A1 (k := n) BQ Aa hal.plain Aa hn hn2) <| AT rfl (AC Do Aa rfl rfl (hal.whole hn2)) <| FJ rfl (Ay Rw Aa AW (HU _ _) (fun _ _ h => h)) <| AR (Af 1) <| B0 <| Ab <| Ai Aa (by rw [hres, ← hbb]; exact hbd) <| AQ (.inr (by kernel_rfl)) (fun _ _ h => h) fun ds => Aj (Af 2) <| Ag rfl (Lg Aa Aa (k := k) rfl (by omega) (show (1 : Int) * 2 ^ k = ((2 ^ k : Nat) : Int) by simp) (Int.le_trans (by decide) (Int.natCast_nonneg _)) (by omega)) <| Ag rfl (PH Aa Aa (m := badMask s l x k) (k := 2 ^ k) rfl rfl (by omega) (by omega) rfl) <| Aj (Af 1) <| Ao <| A0 <| Ab <| Bn (fun _ _ h => h.drop (kD <| kK <| kK <| kK <| kK <| kK <| .refl _)) <| AQ (.inr (by kernel_rfl)) (fun _ _ h => h) fun ds => Ag rfl (AG Aa Aa rfl (by omega) (by omega)) <| Aj (Af 1) <| Ao ?_
     refine Ab ⟨_, m - 1, Off.eq (B3 rfl <| Ca rfl <| BX rfl <| A2), by omega, ?_⟩
     exact ⟨k + 1, by omega, AX, by rw [badMask, if_pos hbd]; exact AX, rfl⟩
    replace hbd : badB s l x k = false := by simpa using hbd
    refine Al <| Ab <| Ac <| Aq <| Ac <| AQ (.inr (by kernel_rfl)) (fun _ _ h => h) fun ds => Aj (Af 1) <| Ag rfl (A1  Dx Aa he.plain Aa rfl hlt) <| Ag rfl (AC Gx Aa rfl rfl (he.whole hlt)) <| A5 rfl <| AO FL rfl fun b30 hb30 nb30 => Aj (Af 1) <| AS <| AP KU Aa Aa (i := 0) rfl rfl rfl rfl Ent.enc_one (.here) <| Ao <| Ab <| Ac <| Bs (.inr (by kernel_rfl)) (fun _ _ h => h) (by kernel_rfl) (by kernel_rfl) fun ds => AR (Af 4) <| AT rfl (A1 (k := n) BQ Aa hal.plain Aa hn hn2) <| AT rfl (AC Do Aa rfl rfl (hal.whole hn2)) <| FJ rfl (Ay Rw Aa AW (HU _ _) (fun _ _ h => h)) <| AR (Af 1) <| B0 <| Ab <| Ad Aa (by rw [hres, ← hbb]; exact hbd) <| Al <| A0 <| Ab <| Bn (fun _ _ h => h.drop (kD <| kK <| kK <| kK <| kK <| kK <| .refl _)) <| AQ (.inr (by kernel_rfl)) (fun _ _ h => h) fun ds => Ag rfl (AG Aa Aa rfl (by omega) (by omega)) <| Aj (Af 1) <| Ao ?_
    refine Ab ⟨_, m - 1, Off.eq (B3 rfl <| A2), by omega, ?_⟩
    exact ⟨k + 1, by omega, AX, by rw [badMask, if_neg (by rw [hbd]; decide)]; exact AX, rfl⟩
   refine Ac <| AQ (.inr (by kernel_rfl)) (fun _ _ h => h) fun ds => Aw (Af 1) <| Ac <| Ad Aa (by first | rfl | exact dF (by omega)) ?_
   obtain rfl : k = l.length := by omega
   have hml6 := HA (s := s) (l := l) (ring := x) (k := l.length) (by omega)
   refine AH ?_
   refine A8 <| A8 <| AB <| Ab <| Ac <| AQ (.inr (by kernel_rfl)) (fun _ _ h => h) fun ds => Aj (Af 1) <| A5 rfl <| Bi bd_73 Aa AW (list_ok (n := badMask s l x l.length) (by omega)) fun v31 F32 hr33 hF34 => ?_
   replace hle := hle.mono hF34
   replace hW := hW.mono hF34
   replace hK3 := hK3.mono hF34
   have hn14 := hr33
   rw [Pt hl6] at hn14
   have hbl8 : (badL s l x).length ≤ 8 := by rw [← Pt hl6]; exact Td
   have hn14l := hn14.plain.lt
   refine Aw (Af 1) <| Ac ?_
   rcases hW with ⟨hw1, rfl, rfl⟩ | ⟨mm, hw1, rfl, hmm, hml⟩
   ·refine AQ (.inr (by kernel_rfl)) (fun _ _ h => h) fun ds => Aj (Af 3) <| Ah rfl rfl Aa (.inl (congrArg Value.bool (by rfl))) rfl <| Ah rfl rfl Aa (.inl (congrArg Value.bool (by rfl))) rfl <| Ah rfl rfl Aa (.inl (congrArg Value.bool (by rfl))) rfl <| Ah rfl rfl Aa (.inl (congrArg Value.bool (by rfl))) rfl <| Ah rfl rfl Aa (.inl (congrArg Value.bool (by rfl))) rfl <| Ag rfl (Ar Aa (by rfl) Aa) <| Aj (Af 1) <| Ah rfl rfl Aa (.inl (congrArg Value.bool rfl)) rfl <| Ah rfl rfl Aa (.inl (congrArg Value.bool rfl)) rfl <| Ah rfl rfl Aa (.inl (congrArg Value.bool rfl)) rfl <| Ah rfl rfl Aa (.inl (congrArg Value.bool rfl)) rfl <| Ah rfl rfl Aa (.inl (congrArg Value.bool rfl)) rfl <| Ah rfl rfl Aa (.inl (congrArg Value.bool rfl)) rfl <| Ah rfl rfl Aa (.inr rfl) rfl <| Ah rfl rfl Aa (.inr rfl) rfl <| Ah rfl rfl Aa (.inr rfl) rfl <| Ah rfl rfl Aa (.inr rfl) rfl <| Ah rfl rfl Aa (.inl (congrArg Value.bool rfl)) rfl <| Ag rfl (Ar Aa rfl C4) <| Ao <| Ab <| Ai Aa rfl ?_
    subst hoL
    refine AQ (.inr (by kernel_rfl)) (fun _ _ h => h) fun ds => Aj (Af 1) <| AS <| Bf Dg Aa Aa (i := 4) rfl (.here) (by first | rfl | exact hn14.plain.one) (.next <| .next <| .next <| .next <| .here) <| AS <| Bf Or Aa Aa (i := 3) rfl (.here) (by first | rfl | exact hn14.plain.one) (.next <| .next <| .next <| .here) <| Ao <| A0 <| C3 (.one (.next <| .here) <| .one (.next <| .here) <| .one (.next <| .here) <| .one (.next <| .here) <| .one (.here) <| .nil) ?_
    refine .inl ⟨rfl, _, rfl, hle, ?_⟩
    have e1 : wrongTo s l (pre ++ [x]) = some (badL s l x) := by rw [CZ, hw1]; rfl
    exact ⟨_, _, true, hK3, .inr ⟨_, e1, rfl, hn14, hbl8⟩, rfl⟩
   refine AQ (.inr (by kernel_rfl)) (fun _ _ h => h) fun ds => Aj (Af 3) <| Ae rfl rfl Aa (by rfl) <| Aj (Af 1) <| Ae rfl rfl Aa (by rfl) <| Ag rfl (A4 A9 Aa hn14.plain) <| Ae rfl rfl Aa (by rfl) <| Aj (Af 1) <| Ae rfl rfl Aa (by rfl) <| Ag rfl (A4 A9 Aa hmm.plain) <| Ae rfl rfl Aa (by rfl) <| Aj (Af 1) <| Ag rfl (As Aa (by rfl) Aa) <| Aj (Af 1) ?_
   by_cases h1 : (badL s l x).length < mm.length
   ·refine Ah rfl rfl Aa (.inl (congrArg Value.bool (dT (by omega)))) rfl <| Ah rfl rfl Aa (.inl (congrArg Value.bool (dT (by omega)))) rfl <| Ah rfl rfl Aa (.inl (congrArg Value.bool (dT (by omega)))) rfl <| Ah rfl rfl Aa (.inl (congrArg Value.bool (dT (by omega)))) rfl <| Ah rfl rfl Aa (.inl (congrArg Value.bool (dT (by omega)))) rfl <| Ah rfl rfl Aa (.inl (congrArg Value.bool (dT (by omega)))) rfl <| Ah rfl rfl Aa (.inr rfl) rfl <| Ah rfl rfl Aa (.inr rfl) rfl <| Ah rfl rfl Aa (.inr rfl) rfl <| Ah rfl rfl Aa (.inr rfl) rfl <| Ah rfl rfl Aa (.inl (congrArg Value.bool (dT (by omega)))) rfl <| Ag rfl (Ar Aa (dT (by omega)) Aa) <| Ao <| Ab <| Ai Aa rfl ?_
    subst hoL
    refine AQ (.inr (by kernel_rfl)) (fun _ _ h => h) fun ds => Aj (Af 1) <| AS <| Bf Dg Aa Aa (i := 4) rfl (.here) (by first | rfl | exact hn14.plain.one) (.next <| .next <| .next <| .next <| .here) <| AS <| Bf Or Aa Aa (i := 3) rfl (.here) (by first | rfl | exact hn14.plain.one) (.next <| .next <| .next <| .here) <| Ao <| A0 <| C3 (.one (.next <| .here) <| .one (.next <| .here) <| .one (.next <| .here) <| .one (.next <| .here) <| .one (.here) <| .nil) ?_
    refine .inl ⟨rfl, _, rfl, hle, ?_⟩
    have e1 : wrongTo s l (pre ++ [x]) = some (badL s l x) := by rw [CZ, hw1, EW (.inl h1)]
    exact ⟨_, _, true, hK3, .inr ⟨_, e1, rfl, hn14, hbl8⟩, rfl⟩
   refine Ae rfl rfl Aa (dF (by omega)) <| Aj (Af 1) <| Ae rfl rfl Aa (dF (by omega)) <| Ag rfl (A4 A9 Aa hn14.plain) <| Ae rfl rfl Aa (dF (by omega)) <| Aj (Af 1) <| Ae rfl rfl Aa (dF (by omega)) <| Ag rfl (A4 A9 Aa hmm.plain) <| Ae rfl rfl Aa (dF (by omega)) <| Aj (Af 1) <| Ae rfl rfl Aa (dF (by omega)) <| Aj (Af 1) ?_
   by_cases h2 : (badL s l x).length = mm.length
   ·refine Ae rfl rfl Aa (dT (by omega)) <| Aj (Af 1) <| Ae rfl rfl Aa (dT (by omega)) <| Aj (Af 1) <| Ae rfl rfl Aa (dT (by omega)) <| AN rfl (Ay bd_74 Aa AW (Qr hn14 hmm) (fun _ _ h => h)) <| Ae rfl rfl Aa (dT (by omega)) <| Aj (Af 1) <| Ae rfl rfl Aa (dF (by omega)) <| Ag rfl (Ar Aa (dT (by omega)) Aa) <| Ag rfl (As Aa (dF (by omega)) Aa) <| Ao <| Ab ?_
    by_cases h3 : cmpL (badL s l x) mm < 0
    ·refine Ai Aa (dT h3) ?_
     subst hoL
     refine AQ (.inr (by kernel_rfl)) (fun _ _ h => h) fun ds => Aj (Af 1) <| AS <| Bf Dg Aa Aa (i := 4) rfl (.here) (by first | rfl | exact hn14.plain.one) (.next <| .next <| .next <| .next <| .here) <| AS <| Bf Or Aa Aa (i := 3) rfl (.here) (by first | rfl | exact hn14.plain.one) (.next <| .next <| .next <| .here) <| Ao <| A0 <| C3 (.one (.next <| .here) <| .one (.next <| .here) <| .one (.next <| .here) <| .one (.next <| .here) <| .one (.here) <| .nil) ?_
     refine .inl ⟨rfl, _, rfl, hle, ?_⟩
     have e1 : wrongTo s l (pre ++ [x]) = some (badL s l x) := by rw [CZ, hw1, EW (.inr ⟨h2, h3⟩)]
     exact ⟨_, _, true, hK3, .inr ⟨_, e1, rfl, hn14, hbl8⟩, rfl⟩
    refine Ad Aa (dF h3) ?_
    subst hoL
    refine Al <| A0 <| C3 (.one (.next <| .here) <| .one (.next <| .here) <| .one (.next <| .here) <| .one (.next <| .here) <| .one (.here) <| .nil) ?_
    refine .inl ⟨rfl, _, rfl, hle, ?_⟩
    have e1 : wrongTo s l (pre ++ [x]) = some mm := by rw [CZ, hw1, EV (fun h => h.elim h1 (fun h => h3 h.2))]
    exact ⟨_, _, true, hK3, .inr ⟨_, e1, rfl, hmm, hml⟩, rfl⟩
   refine Ah rfl rfl Aa (.inl (congrArg Value.bool (dF (by omega)))) rfl <| Ah rfl rfl Aa (.inl (congrArg Value.bool (dF (by omega)))) rfl <| Ah rfl rfl Aa (.inl (congrArg Value.bool (dF (by omega)))) rfl <| Ah rfl rfl Aa (.inl (congrArg Value.bool (dF (by omega)))) rfl <| Ae rfl rfl Aa (dF (by omega)) <| Ag rfl (As Aa (dF (by omega)) Aa) <| Ag rfl (As Aa (dF (by omega)) Aa) <| Ao <| Ab <| Ad Aa rfl ?_
   subst hoL
   refine Al <| A0 <| C3 (.one (.next <| .here) <| .one (.next <| .here) <| .one (.next <| .here) <| .one (.next <| .here) <| .one (.here) <| .nil) ?_
   refine .inl ⟨rfl, _, rfl, hle, ?_⟩
   have e1 : wrongTo s l (pre ++ [x]) = some mm := by rw [CZ, hw1, EV (fun h => h.elim h1 (fun h => h2 h.1))]
   exact ⟨_, _, true, hK3, .inr ⟨_, e1, rfl, hmm, hml⟩, rfl⟩
  obtain ⟨es2, vw, fo, hK2, hW, rfl⟩ := hJ
  have hwm := hW.all
  refine A0 <| Ab <| Az (Af 1) fun ds => AS <| Bf Dg Aa Aa (i := 1) rfl (.here) hwm.plain.one (.next <| .here) <| Aw (Af 1) <| At <| Ap rfl (.one Bq Aa (Cell.own 1 rfl rfl) Bd) ?_
  rw [RJ hok]
  exact ⟨_, rfl, hwm⟩
 refine Ac <| Am fun ds => A5 rfl <| Bg Aa rfl fun b35 hb35 nb35 => A5 rfl <| Bg Aa (B9 he.plain.one) fun b36 hb36 nb36 => A5 rfl <| AO JX rfl fun b37 hb37 nb37 => Aw (Af 1) <| Az (Af 2) fun ds => A5 rfl <| Bi Rx Aa AW (GY hr he hok) fun v38 F39 hr40 hF41 => ?_
 obtain ⟨va, hva1, rfl⟩ := hr40
 refine Aj (Af 3) <| A5 rfl <| AO Tu rfl fun b42 hb42 nb42 => AS <| Bf TI Aa Aa (i := 0) rfl (.here) (by first | rfl | exact hva1) (.here) <| Aw (Af 1) <| Ac <| AD (Af 2) <| Ai Aa (dT hok) <| Az (Af 1) fun ds => AS <| Bf Dg Aa Aa (i := 1) rfl (.here) rfl (.next <| .here) <| Aw (Af 1) <| At <| Ax <| Ap rfl (.one Bq Aa (Cell.own 1 rfl rfl) Bd) ?_
 rw [P6 rfl hok]
 exact ⟨_, rfl, Sl.nil⟩
end
section
open Go.RowKit
theorem Sl.srcM {α : Type} {F : Heap} {H : List (Nat × Obj)} {v : Value} {s : Nat} {enc : α → List Value} {xs : List α} (h : Sl F v s enc xs) (hs : ∀ x, (enc x).length = s) (h1 : ∀ x ∈ xs, ∀ u ∈ enc x, u.oneCell' = true) :
   Src ⟨F, H⟩ v xs.length (xs.flatMap enc) s := by
 have hlen : ∀ l : List α, (l.flatMap enc).length = l.length * s := fun l => L6 hs l
 obtain ⟨a, c, rfl, hsp, hno, hlc, -⟩ := h.plain
 refine ⟨hlen xs, fun u hu => ?_, a, c, rfl, fun ha => (hno ha).1, fun x hx => ⟨fun h0 => hsp (by omega) x hx, fun j u hj => ?_⟩⟩
 · obtain ⟨x, hm, hx⟩ := List.mem_flatMap.1 hu
   exact h1 x hm u hx
 have hs0 : 0 < s := by
   rcases Nat.eq_zero_or_pos s with h0 | h0
   · have := (List.getElem?_eq_some_iff.1 hj).1
     rw [hlen, h0] at this; omega
   exact h0
 have hj1 := (List.getElem?_eq_some_iff.1 hj).1
 rw [hlen] at hj1
 have hi : j / s < xs.length := Nat.div_lt_of_lt_mul (by rw [Nat.mul_comm]; exact hj1)
 have hm : j % s < s := Nat.mod_lt _ hs0
 have hje : j / s * s + j % s = j := by rw [Nat.mul_comm]; exact Nat.div_add_mod j s
 have hcell : (enc xs[j / s])[j % s]? = some u := by
   have hl : j % s < (enc xs[j / s]).length := by rw [hs]; exact hm
   have := Jj hs (u := (enc xs[j / s])[j % s]'hl) xs (j / s) hi (List.getElem?_eq_getElem hl)
   rw [hje, hj] at this
   rw [List.getElem?_eq_getElem hl, this]
 have := h.cells (j / s) hi (j % s) u hcell
 rw [hje] at this
 subst hx
 exact this.cell
@[reducible] def rsE (p : Value × List Res) : List Value := [p.1]
def RLs (F : Heap) (v : Value) (xss : List (List Res)) : Prop := ∃ ps : List (Value × List Res), Sl F v 1 rsE ps ∧ (∀ p ∈ ps, Sl F p.1 2 Res.enc p.2) ∧ ps.map (·.2) = xss
theorem RLs.mono {F F' : Heap} {v : Value} {xss : List (List Res)} (h : RLs F v xss) (hF : F.le F') : RLs F' v xss := by
 obtain ⟨ps, h1, h2, h3⟩ := h
 exact ⟨ps, h1.mono hF, fun p hp => (h2 p hp).mono hF, h3⟩
def AllR (F : Heap) (ps : List (Value × List Res)) : Prop := ∀ p ∈ ps, Sl F p.1 2 Res.enc p.2
theorem AllR.mono {F F' : Heap} {ps : List (Value × List Res)} (h : AllR F ps) (hF : F.le F') : AllR F' ps := fun p hp => (h p hp).mono hF
theorem AllN.one {F : Heap} {ps : List (Value × List Nat)} (h : AllN F ps) : ∀ x ∈ ps, ∀ u ∈ slE x, u.oneCell' = true := fun x hx u hu => by
 simp only [slE, List.mem_cons, List.not_mem_nil, or_false] at hu
 subst hu; exact (h x hx).plain.one
end
section
open Go.RowKit
def stA : Stp := ⟨0, 5⟩
def stB : Stp := ⟨50, 10⟩
def ltA : Lot := ⟨⟨#[98, 105, 98, 108, 101]⟩, 0, 20, true⟩
def ltB : Lot := ⟨⟨#[97, 116, 108, 97, 115]⟩, 0, 48, false⟩
def ltC : Lot := ⟨⟨#[102, 97, 110]⟩, 0, 30, false⟩
def names4 : List ByteArray := [⟨#[97, 110, 110]⟩, ⟨#[98, 101, 110]⟩, ⟨#[99, 105, 100]⟩, ⟨#[100, 111, 116]⟩]
def names1 : List ByteArray := [⟨#[100, 117, 107, 101]⟩]
def bids6 : List Bid := [⟨0, 0, 62⟩, ⟨1, 0, 41⟩, ⟨2, 0, 55⟩, ⟨1, 1, 90⟩, ⟨3, 1, 70⟩, ⟨3, 2, 25⟩]
def saleX : Sale := ⟨[stA, stB], 100, 150, 14, names4, names1, [ltA, ltB, ltC], bids6⟩
def resX (p : Int) : List Res := [⟨0, p⟩, ⟨1, 73⟩, ⟨-1, 0⟩]
def back1 (d : Int) : List Back := [⟨0, d⟩]
def entX (l p : Int) : Ent := ⟨l, true, p, p⟩
def ent1 (l lo hi : Int) : Ent := ⟨l, true, lo, hi⟩
theorem ev_n1 : nextE saleX 50 = (60, 0) := by kernel_rfl
theorem ev_s1 : sellE saleX [] = (resX 60, 0) := by kernel_rfl
theorem ev_s2 : sellE saleX [0, 1, 2] = (resX 20, 0) := by kernel_rfl
theorem ev_a1 : accE saleX [1, 3] (back1 14) = ([0, 53, 0, 0], [41], 12, 0) := by kernel_rfl
theorem ev_a2 : accE saleX [1, 3] (back1 15) = ([], [], 0, 7) := by kernel_rfl
theorem ev_h1 : shareE saleX [0, 1, 2] = ([14, 13, 13], 0) := by kernel_rfl
theorem ev_r1 : ringsE saleX [entX 0 60, entX 1 48] = ([[1, 3], [0, 1, 3], [1, 2, 3]], 0) := by kernel_rfl
theorem ev_r2 : ringsE saleX [entX 2 30] = ([], 8) := by kernel_rfl
theorem ev_m1 : membersE saleX [ent1 0 20 50] = ([0, 2], [0, 1, 2, 3], 0) := by kernel_rfl
theorem ev_w1 : wrongE saleX [entX 0 45, entX 1 48, entX 2 30] = ([0, 2], 0) := by kernel_rfl
end
section
set_option maxRecDepth 100000
open Go.RowKit
theorem Tq : ZeroT Tryz.prog 33 (.agg #[.slice none 0 0, .int .i64 0, .int .i64 0, .int .i64 0, .slice none 0 0, .slice none 0 0, .slice none 0 0, .slice none 0 0]) := Br (by kernel_rfl)
theorem Dj : Body Tryz.prog 13 := AE (by kernel_rfl)
theorem Nd : Body Tryz.prog 65 := AE (by kernel_rfl)
theorem bd_70 : Body Tryz.prog 70 := AE (by kernel_rfl)
theorem bt_33 : BuildT Tryz.prog 33 [.slice none 0 0, .int .i64 0, .int .i64 0, .int .i64 0, .slice none 0 0, .slice none 0 0, .slice none 0 0, .slice none 0 0] [(0, 1), (1, 1), (2, 1), (3, 1), (4, 1), (5, 1), (6, 1), (7, 1)] := BD Tq (by kernel_rfl) (by decide)
theorem bt_95 : BuildT Tryz.prog 95 [.int .i64 0, .bool false, .int .i64 0, .int .i64 0] [(0, 1), (1, 1), (2, 2)] := BD FL (by kernel_rfl) (by decide)
theorem Vr : BuildT Tryz.prog 47 [.string ⟨#[]⟩, .int .i64 0, .int .i64 0, .bool false] [(0, 1), (1, 1), (2, 1), (3, 1)] := BD Mk (by kernel_rfl) (by decide)
theorem bt_124 : BuildT Tryz.prog 124 [.int .i64 0, .int .i64 0, .int .i64 0] [(0, 1), (1, 1), (2, 1)] := BD FS (by kernel_rfl) (by decide)
theorem bt_69 : BuildT Tryz.prog 69 [.int .i64 0, .int .i64 0] [(0, 1), (1, 1)] := BD GP (by kernel_rfl) (by decide)
theorem sz_33 : SizeT Tryz.prog 33 8 := Bx (by kernel_rfl)
theorem Kd : SizeT Tryz.prog 41 2 := Bx (by kernel_rfl)
theorem span_ok {F : Heap} (a b : Int) : Ok Tryz.prog 70 [.int .i64 a, .int .i64 b].toArray F fun r _ => r = .agg #[.int .i64 a, .int .i64 b] := by
 refine Ok.intro Tryz.func70 rfl Tryz.ntmps70 rfl fun w0 => Ac <| Am fun ds => A5 rfl <| AO JY rfl fun b1 hb1 nb1 => Ao <| Ab <| Az (Af 2) fun ds => Ag rfl (Bm Ps (.cons Aa rfl (.cons Aa rfl .nil)) (.cons rfl rfl (Nat.le_of_ble_eq_true rfl) (.cons (.here) .nil) (.cons rfl rfl (Nat.le_of_ble_eq_true rfl) (.cons (.next <| .here) .nil) .nil))) <| AS <| AP Kd Aa Aa (i := 0) rfl rfl rfl rfl (by simp [Value.oneCell']) (.here) <| Ao <| Ab <| At <| Ap rfl (.agg Gy Aa rfl rfl (Bz 0 rfl) .nil) ?_
 rfl
theorem JP {F : Heap} (a b c : Int) : Ok Tryz.prog 65 [.int .i64 a, .int .i64 b, .int .i64 c].toArray F fun r _ => r = .agg #[.int .i64 a, .int .i64 b, .int .i64 c] := by
 refine Ok.intro Tryz.func65 rfl Tryz.ntmps65 rfl fun w0 => Ac <| Am fun ds => A5 rfl <| AO FS rfl fun b1 hb1 nb1 => Ao <| Ab <| Az (Af 3) fun ds => Ag rfl (Bm bt_124 (.cons Aa rfl (.cons Aa rfl (.cons Aa rfl .nil))) (.cons rfl rfl (Nat.le_of_ble_eq_true rfl) (.cons (.here) .nil) (.cons rfl rfl (Nat.le_of_ble_eq_true rfl) (.cons (.next <| .here) .nil) (.cons rfl rfl (Nat.le_of_ble_eq_true rfl) (.cons (.next <| .next <| .here) .nil) .nil)))) <| AS <| AP J7 Aa Aa (i := 0) rfl rfl rfl rfl (by simp [Value.oneCell']) (.here) <| Ao <| Ab <| At <| Ap rfl (.agg Ep Aa rfl rfl (Bz 0 rfl) .nil) ?_
 rfl
theorem Eq {F : Heap} (a b : Int) : Ok Tryz.prog 40 [.int .i64 a, .int .i64 b].toArray F fun r _ => r = .agg #[.int .i64 a, .int .i64 b] := by
 refine Ok.intro Tryz.func40 rfl Tryz.ntmps40 rfl fun w0 => Ac <| Am fun ds => A5 rfl <| AO FR rfl fun b1 hb1 nb1 => Ao <| Ab <| Az (Af 2) fun ds => Ag rfl (Bm Pr (.cons Aa rfl (.cons Aa rfl .nil)) (.cons rfl rfl (Nat.le_of_ble_eq_true rfl) (.cons (.here) .nil) (.cons rfl rfl (Nat.le_of_ble_eq_true rfl) (.cons (.next <| .here) .nil) .nil))) <| AS <| AP Oq Aa Aa (i := 0) rfl rfl rfl rfl (by simp [Value.oneCell']) (.here) <| Ao <| Ab <| At <| Ap rfl (.agg Do Aa rfl rfl (Bz 0 rfl) .nil) ?_
 rfl
theorem EC {F : Heap} (a b c : Int) : Ok Tryz.prog 36 [.int .i64 a, .int .i64 b, .int .i64 c].toArray F fun r _ => r = .agg #[.int .i64 a, .bool true, .int .i64 b, .int .i64 c] := by
 refine Ok.intro Tryz.func36 rfl Tryz.ntmps36 rfl fun w0 => Ac <| Am fun ds => A5 rfl <| AO FL rfl fun b1 hb1 nb1 => Ao <| Ab <| Az (Af 3) fun ds => AN rfl (Ay bd_70 Aa AW (span_ok _ _) (fun _ _ h => h)) <| Ag rfl (Bm bt_95 (.cons Aa rfl (.cons Aa rfl (.cons Aa rfl .nil))) (.cons rfl rfl (Nat.le_of_ble_eq_true rfl) (.cons (.here) .nil) (.cons rfl rfl (Nat.le_of_ble_eq_true rfl) (.cons (.next <| .here) .nil) (.cons rfl rfl (Nat.le_of_ble_eq_true rfl) (.cons (.next <| .next <| .here) (.cons (.next <| .next <| .next <| .here) .nil)) .nil)))) <| AS <| AP KU Aa Aa (i := 0) rfl rfl rfl rfl (by simp [Value.oneCell']) (.here) <| Ao <| Ab <| At <| Ap rfl (.agg Gx Aa rfl rfl (Bz 0 rfl) .nil) ?_
 rfl
theorem PB {F : Heap} {b T : Nat} (h : F b = some (bx T [.int .i64 0, .int .i64 5, .int .i64 50, .int .i64 10])) : Sl F (.slice (some ⟨b, 0, none⟩) 2 2) 2 Stp.enc ([stA, stB] : List Stp) :=
 Cw (xs := ([stA, stB] : List Stp)) h rfl rfl (fun _ => rfl) (by decide)
theorem RM {F : Heap} {b T : Nat} (h : F b = some (bx T [.string ⟨#[97, 110, 110]⟩, .string ⟨#[98, 101, 110]⟩, .string ⟨#[99, 105, 100]⟩, .string ⟨#[100, 111, 116]⟩])) : Sl F (.slice (some ⟨b, 0, none⟩) 4 4) 1 strE (names4 : List ByteArray) :=
 Cw (xs := (names4 : List ByteArray)) h rfl rfl (fun _ => rfl) (by decide)
theorem RN {F : Heap} {b T : Nat} (h : F b = some (bx T [.string ⟨#[100, 117, 107, 101]⟩])) : Sl F (.slice (some ⟨b, 0, none⟩) 1 1) 1 strE (names1 : List ByteArray) :=
 Cw (xs := (names1 : List ByteArray)) h rfl rfl (fun _ => rfl) (by decide)
theorem S4 {F : Heap} {b T : Nat} (h : F b = some (bx T [.string ⟨#[98, 105, 98, 108, 101]⟩, .int .i64 0, .int .i64 20, .bool true, .string ⟨#[97, 116, 108, 97, 115]⟩, .int .i64 0, .int .i64 48, .bool false, .string ⟨#[102, 97, 110]⟩, .int .i64 0, .int .i64 30, .bool false])) : Sl F (.slice (some ⟨b, 0, none⟩) 3 3) 4 Lot.enc ([ltA, ltB, ltC] : List Lot) :=
 Cw (xs := ([ltA, ltB, ltC] : List Lot)) h rfl rfl (fun _ => rfl) (by decide)
theorem Te {F : Heap} {b T : Nat} (h : F b = some (bx T [.int .i64 0, .int .i64 0, .int .i64 62, .int .i64 1, .int .i64 0, .int .i64 41, .int .i64 2, .int .i64 0, .int .i64 55, .int .i64 1, .int .i64 1, .int .i64 90, .int .i64 3, .int .i64 1, .int .i64 70, .int .i64 3, .int .i64 2, .int .i64 25])) : Sl F (.slice (some ⟨b, 0, none⟩) 6 6) 3 Bid.enc (bids6 : List Bid) :=
 Cw (xs := (bids6 : List Bid)) h rfl rfl (fun _ => rfl) (by decide)
theorem sale_ok {F : Heap} : Ok Tryz.prog 32 [].toArray F fun u F' => ∃ vs vb vl vn vd, u = .agg #[vs, .int .i64 100, .int .i64 150, .int .i64 14, vb, vl, vn, vd] ∧ SaleR F' vs vb vl vn vd saleX := by
 refine Ok.intro Tryz.func32 rfl Tryz.ntmps32 rfl fun w0 => Ac <| Am fun ds => A5 rfl <| AO Tq rfl fun b1 hb1 nb1 => Ao <| Ab <| Ac <| Am fun ds => Ag rfl (Bm bt_69 (.cons Aa rfl (.cons Aa rfl .nil)) (.cons rfl rfl (Nat.le_of_ble_eq_true rfl) (.cons (.here) .nil) (.cons rfl rfl (Nat.le_of_ble_eq_true rfl) (.cons (.next <| .here) .nil) .nil))) <| Ag rfl (Bm bt_69 (.cons Aa rfl (.cons Aa rfl .nil)) (.cons rfl rfl (Nat.le_of_ble_eq_true rfl) (.cons (.here) .nil) (.cons rfl rfl (Nat.le_of_ble_eq_true rfl) (.cons (.next <| .here) .nil) .nil))) <| A5 rfl <| B5 (offs := [(0, 2), (2, 2)]) (zl := [.int .i64 0, .int .i64 0, .int .i64 0, .int .i64 0]) CQ GP rfl (.cons Aa rfl (.cons Aa rfl .nil)) (by intro i p h; rcases i with _ | _ | i <;> simp at h <;> subst h <;> rfl) (.cons rfl rfl (Nat.le_of_ble_eq_true rfl) (.cons (.here) (.cons (.next <| .here) .nil)) (.cons rfl rfl (Nat.le_of_ble_eq_true rfl) (.cons (.next <| .next <| .here) (.cons (.next <| .next <| .next <| .here) .nil)) .nil)) (by decide) (by decide) fun b2 hb2 nb2 => AJ (i := 0) rfl hb2 .here fun F3 hF4 hz5 => ?_
 have hsl6 := PB hz5
 refine A5 rfl <| AM BB zr_9 rfl (.cons Aa (.cons Aa (.cons Aa (.cons Aa .nil)))) rfl rfl (by decide) (by simp [Value.oneCell']) fun b7 hb7 nb7 => AJ (i := 0) rfl hb7 .here fun F8 hF9 hz10 => ?_
 have hsl11 := RM hz10
 refine A5 rfl <| AM BB zr_9 rfl (.cons Aa .nil) rfl rfl (by decide) (by simp [Value.oneCell']) fun b12 hb12 nb12 => AJ (i := 0) rfl hb12 .here fun F13 hF14 hz15 => ?_
 have hsl16 := RN hz15
 refine Ag rfl (Bm Vr (.cons Aa rfl (.cons Aa rfl (.cons Aa rfl .nil))) (.cons rfl rfl (Nat.le_of_ble_eq_true rfl) (.cons (.here) .nil) (.cons rfl rfl (Nat.le_of_ble_eq_true rfl) (.cons (.next <| .next <| .here) .nil) (.cons rfl rfl (Nat.le_of_ble_eq_true rfl) (.cons (.next <| .next <| .next <| .here) .nil) .nil)))) <| Ag rfl (Bm Vr (.cons Aa rfl (.cons Aa rfl .nil)) (.cons rfl rfl (Nat.le_of_ble_eq_true rfl) (.cons (.here) .nil) (.cons rfl rfl (Nat.le_of_ble_eq_true rfl) (.cons (.next <| .next <| .here) .nil) .nil))) <| Ag rfl (Bm Vr (.cons Aa rfl (.cons Aa rfl .nil)) (.cons rfl rfl (Nat.le_of_ble_eq_true rfl) (.cons (.here) .nil) (.cons rfl rfl (Nat.le_of_ble_eq_true rfl) (.cons (.next <| .next <| .here) .nil) .nil))) <| A5 rfl <| B5 (offs := [(0, 4), (4, 4), (8, 4)]) (zl := [.string ⟨#[]⟩, .int .i64 0, .int .i64 0, .bool false, .string ⟨#[]⟩, .int .i64 0, .int .i64 0, .bool false, .string ⟨#[]⟩, .int .i64 0, .int .i64 0, .bool false]) BN Mk rfl (.cons Aa rfl (.cons Aa rfl (.cons Aa rfl .nil))) (by intro i p h; rcases i with _ | _ | _ | i <;> simp at h <;> subst h <;> rfl) (.cons rfl rfl (Nat.le_of_ble_eq_true rfl) (.cons (.here) (.cons (.next <| .here) (.cons (.next <| .next <| .here) (.cons (.next <| .next <| .next <| .here) .nil)))) (.cons rfl rfl (Nat.le_of_ble_eq_true rfl) (.cons (.next <| .next <| .next <| .next <| .here) (.cons (.next <| .next <| .next <| .next <| .next <| .here) (.cons (.next <| .next <| .next <| .next <| .next <| .next <| .here) (.cons (.next <| .next <| .next <| .next <| .next <| .next <| .next <| .here) .nil)))) (.cons rfl rfl (Nat.le_of_ble_eq_true rfl) (.cons (.next <| .next <| .next <| .next <| .next <| .next <| .next <| .next <| .here) (.cons (.next <| .next <| .next <| .next <| .next <| .next <| .next <| .next <| .next <| .here) (.cons (.next <| .next <| .next <| .next <| .next <| .next <| .next <| .next <| .next <| .next <| .here) (.cons (.next <| .next <| .next <| .next <| .next <| .next <| .next <| .next <| .next <| .next <| .next <| .here) .nil)))) .nil))) (by decide) (by decide) fun b17 hb17 nb17 => ?_
 refine AJ (i := 0) rfl hb17 .here fun F18 hF19 hz20 => ?_
 have hsl21 := S4 hz20
 refine AN rfl (Ay Nd Aa AW (JP _ _ _) (fun _ _ h => h)) <| AN rfl (Ay Nd Aa AW (JP _ _ _) (fun _ _ h => h)) <| AN rfl (Ay Nd Aa AW (JP _ _ _) (fun _ _ h => h)) <| AN rfl (Ay Nd Aa AW (JP _ _ _) (fun _ _ h => h)) <| AN rfl (Ay Nd Aa AW (JP _ _ _) (fun _ _ h => h)) <| AN rfl (Ay Nd Aa AW (JP _ _ _) (fun _ _ h => h)) <| A5 rfl <| B5 (offs := [(0, 3), (3, 3), (6, 3), (9, 3), (12, 3), (15, 3)]) (zl := [.int .i64 0, .int .i64 0, .int .i64 0, .int .i64 0, .int .i64 0, .int .i64 0, .int .i64 0, .int .i64 0, .int .i64 0, .int .i64 0, .int .i64 0, .int .i64 0, .int .i64 0, .int .i64 0, .int .i64 0, .int .i64 0, .int .i64 0, .int .i64 0]) CT FS rfl (.cons Aa rfl (.cons Aa rfl (.cons Aa rfl (.cons Aa rfl (.cons Aa rfl (.cons Aa rfl .nil)))))) (by intro i p h; rcases i with _ | _ | _ | _ | _ | _ | i <;> simp at h <;> subst h <;> rfl) (.cons rfl rfl (Nat.le_of_ble_eq_true rfl) (.cons (.here) (.cons (.next <| .here) (.cons (.next <| .next <| .here) .nil))) (.cons rfl rfl (Nat.le_of_ble_eq_true rfl) (.cons (.next <| .next <| .next <| .here) (.cons (.next <| .next <| .next <| .next <| .here) (.cons (.next <| .next <| .next <| .next <| .next <| .here) .nil))) (.cons rfl rfl (Nat.le_of_ble_eq_true rfl) (.cons (.next <| .next <| .next <| .next <| .next <| .next <| .here) (.cons (.next <| .next <| .next <| .next <| .next <| .next <| .next <| .here) (.cons (.next <| .next <| .next <| .next <| .next <| .next <| .next <| .next <| .here) .nil))) (.cons rfl rfl (Nat.le_of_ble_eq_true rfl) (.cons (.next <| .next <| .next <| .next <| .next <| .next <| .next <| .next <| .next <| .here) (.cons (.next <| .next <| .next <| .next <| .next <| .next <| .next <| .next <| .next <| .next <| .here) (.cons (.next <| .next <| .next <| .next <| .next <| .next <| .next <| .next <| .next <| .next <| .next <| .here) .nil))) (.cons rfl rfl (Nat.le_of_ble_eq_true rfl) (.cons (.next <| .next <| .next <| .next <| .next <| .next <| .next <| .next <| .next <| .next <| .next <| .next <| .here) (.cons (.next <| .next <| .next <| .next <| .next <| .next <| .next <| .next <| .next <| .next <| .next <| .next <| .next <| .here) (.cons (.next <| .next <| .next <| .next <| .next <| .next <| .next <| .next <| .next <| .next <| .next <| .next <| .next <| .next <| .here) .nil))) (.cons rfl rfl (Nat.le_of_ble_eq_true rfl) (.cons (.next <| .next <| .next <| .next <| .next <| .next <| .next <| .next <| .next <| .next <| .next <| .next <| .next <| .next <| .next <| .here) (.cons (.next <| .next <| .next <| .next <| .next <| .next <| .next <| .next <| .next <| .next <| .next <| .next <| .next <| .next <| .next <| .next <| .here) (.cons (.next <| .next <| .next <| .next <| .next <| .next <| .next <| .next <| .next <| .next <| .next <| .next <| .next <| .next <| .next <| .next <| .next <| .here) .nil))) .nil)))))) (by decide) (by decide) fun b22 hb22 nb22 => ?_
 refine AJ (i := 0) rfl hb22 .here fun F23 hF24 hz25 => ?_
 replace hsl6 := hsl6.mono (Heap.le_trans hF9 (Heap.le_trans hF14 (Heap.le_trans hF19 hF24)))
 replace hsl11 := hsl11.mono (Heap.le_trans hF14 (Heap.le_trans hF19 hF24))
 replace hsl16 := hsl16.mono (Heap.le_trans hF19 hF24)
 replace hsl21 := hsl21.mono hF24
 have hsl26 := Te hz25
 refine Ag rfl (Bm bt_33 (.cons Aa rfl (.cons Aa rfl (.cons Aa rfl (.cons Aa rfl (.cons Aa rfl (.cons Aa rfl (.cons Aa rfl (.cons Aa rfl .nil)))))))) (.cons rfl rfl (Nat.le_of_ble_eq_true rfl) (.cons (.here) .nil) (.cons rfl rfl (Nat.le_of_ble_eq_true rfl) (.cons (.next <| .here) .nil) (.cons rfl rfl (Nat.le_of_ble_eq_true rfl) (.cons (.next <| .next <| .here) .nil) (.cons rfl rfl (Nat.le_of_ble_eq_true rfl) (.cons (.next <| .next <| .next <| .here) .nil) (.cons rfl rfl (Nat.le_of_ble_eq_true rfl) (.cons (.next <| .next <| .next <| .next <| .here) .nil) (.cons rfl rfl (Nat.le_of_ble_eq_true rfl) (.cons (.next <| .next <| .next <| .next <| .next <| .here) .nil) (.cons rfl rfl (Nat.le_of_ble_eq_true rfl) (.cons (.next <| .next <| .next <| .next <| .next <| .next <| .here) .nil) (.cons rfl rfl (Nat.le_of_ble_eq_true rfl) (.cons (.next <| .next <| .next <| .next <| .next <| .next <| .next <| .here) .nil) .nil))))))))) <| AS <| AP sz_33 Aa Aa (i := 0) rfl rfl rfl rfl (by simp [Value.oneCell']) (.here) <| Ao <| Ab <| At <| Ap rfl (.agg EG Aa rfl rfl (Bz 0 rfl) .nil) ?_
 exact ⟨_, _, _, _, _, rfl, ⟨hsl6, hsl11, hsl16, hsl21, hsl26⟩⟩
theorem nats_eq {xs ys : List Nat} : decide (xs.map (fun (n : Nat) => (n : Int)) = ys.map (fun (n : Nat) => (n : Int))) = decide (xs = ys) := by
 congr 1
 rw [eq_iff_iff]
 refine ⟨fun h => ?_, fun h => by rw [h]⟩
 have := congrArg (List.map Int.toNat) h
 rwa [QZ, QZ] at this
theorem DS {F : Heap} {v u : Value} {xs ys : List Nat} (hx : Nats F v xs) (hy : Nats F u ys) : Ok Tryz.prog 13 [v, u].toArray F fun r _ => r = .bool (decide (xs = ys)) :=
 (BH hx.ints hy.ints).mono fun r _ _ h => by rw [h, nats_eq]
theorem TL {ps qs : List (Value × List Nat)} {k : Nat} (h1 : k < ps.length) (h2 : k < qs.length) (ht : (ps.map (·.2)).take k = (qs.map (·.2)).take k) (he : ps[k].2 = qs[k].2) : (ps.map (·.2)).take (k + 1) = (qs.map (·.2)).take (k + 1) := by
 rw [List.take_succ_eq_append_getElem (by simpa using h1), List.take_succ_eq_append_getElem (by simpa using h2), ht]; simp [he]
theorem snd_ne {ps qs : List (Value × List Nat)} {k : Nat} (h1 : k < ps.length) (h2 : k < qs.length) (he : ps[k].2 ≠ qs[k].2) : ps.map (·.2) ≠ qs.map (·.2) := fun h => by
 apply he
 have := congrArg (fun z => z[k]?) h
 simpa [List.getElem?_eq_getElem h1, List.getElem?_eq_getElem h2] using this
theorem VY {F : Heap} {v u : Value} {xs ys : List (List Nat)} (hx : Lsts F v xs) (hy : Lsts F u ys) : Ok Tryz.prog 41 [v, u].toArray F fun r _ => r = .bool (decide (xs = ys)) := by
 obtain ⟨ps, hxs, hpa, hpm⟩ := hx
 replace hpa : AllN _ ps := hpa
 obtain ⟨qs, hys, hqa, hqm⟩ := hy
 replace hqa : AllN _ qs := hqa
 refine Ok.intro Tryz.func41 rfl Tryz.ntmps41 rfl fun w0 => ?_
 have hlen := hxs.plain.lt
 have hlen2 := hys.plain.lt
 by_cases hll : ps.length = qs.length
 ·refine AD (Af 1) <| Ac <| Az (Af 1) fun ds => Ag rfl (A4 Dh Aa hxs.plain) <| Aj (Af 1) <| Ag rfl (A4 Dh Aa hys.plain) <| Aw (Af 1) <| Ad Aa (dF (by omega)) <| Al <| Ab <| Ac <| AD (Af 1) <| Aq ?_
  refine AL [4, 5, 11, 12, 13, 14, 15, 16, 17, 18, 19, 20, 21, 22, 23, 24, 25, 26] (fun m e σ => ∃ k : Nat, m + k = ps.length ∧ Fct e 5 (.int .i64 (k : Int)) ∧ σ = ⟨F, []⟩ ∧ (ps.map (·.2)).take k = (qs.map (·.2)).take k) (ps.length) ?_ ?_
  · exact ⟨0, by omega, AX, rfl, rfl⟩
  rintro m e _ ⟨k, hm, hs5, rfl, htk⟩
  by_cases hlt : k < ps.length
  ·have hlt2 : k < qs.length := by omega
   have hxl : Nats _ _ _ := hpa _ (List.getElem_mem hlt)
   have hyl : Nats _ _ _ := hqa _ (List.getElem_mem hlt2)
   refine Ac <| Az (Af 2) fun ds => Ag rfl (A4 Dh Aa hxs.plain) <| Aw (Af 1) <| Ai Aa (by first | rfl | exact dT (by omega)) ?_
   by_cases hne : ps[k].2 = qs[k].2
   ·refine Al <| Ab <| Ac <| Aq <| Ac <| Bs (.inl rfl) (fun _ _ h => h) (by kernel_rfl) (by kernel_rfl) fun ds => AR (Af 2) <| AT rfl (A1  Dh Aa hxs.plain Aa rfl hlt) <| AT rfl (Ak Bq Aa (hxs.cell1 hlt rfl)) <| AR (Af 2) <| AT rfl (A1  Dh Aa hys.plain Aa rfl hlt2) <| AT rfl (Ak Bq Aa (hys.cell1 hlt2 rfl)) <| FJ rfl (Ay Dj Aa AW (DS hxl hyl) (fun _ _ h => h)) <| AR (Af 1) <| B0 <| Ab <| Ad Aa (by simp [hne]) <| Al <| A0 <| Ab <| Am fun ds => Aj (Af 1) <| Ag rfl (AG Aa Aa rfl (by omega) (by omega)) <| Aj (Af 1) <| Ao ?_
    refine Ab ⟨_, m - 1, Off.eq (B3 rfl <| BX rfl <| A2), by omega, ?_⟩
    exact ⟨k + 1, by omega, AX, rfl, TL hlt hlt2 htk hne⟩
   refine Al <| Ab <| Ac <| Aq <| Ac <| Bs (.inl rfl) (fun _ _ h => h) (by kernel_rfl) (by kernel_rfl) fun ds => AR (Af 2) <| AT rfl (A1  Dh Aa hxs.plain Aa rfl hlt) <| AT rfl (Ak Bq Aa (hxs.cell1 hlt rfl)) <| AR (Af 2) <| AT rfl (A1  Dh Aa hys.plain Aa rfl hlt2) <| AT rfl (Ak Bq Aa (hys.cell1 hlt2 rfl)) <| FJ rfl (Ay Dj Aa AW (DS hxl hyl) (fun _ _ h => h)) <| AR (Af 1) <| B0 <| Ab <| Ai Aa (by simp [hne]) <| AD (Af 1) <| At ?_
   refine A7 (Ax (Ax (A7 (Ax ?_))))
   refine Ap rfl Bd ?_
   show _ = _
   rw [← hpm, ← hqm, dF (snd_ne hlt hlt2 hne)]; rfl
  refine Ac <| Az (Af 2) fun ds => Ag rfl (A4 Dh Aa hxs.plain) <| Aw (Af 1) <| Ad Aa (by first | rfl | exact dF (by omega)) ?_
  obtain rfl : k = ps.length := by omega
  refine AH ?_
  refine A8 <| A8 <| AB <| Ab <| AD (Af 1) <| At <| Ap rfl Bd ?_
  show _ = _
  have h9 : ps.map (·.2) = qs.map (·.2) := by rw [List.take_of_length_le (by simp), List.take_of_length_le (by simp [hll])] at htk; exact htk
  rw [← hpm, ← hqm, dT h9]; rfl
 refine AD (Af 1) <| Ac <| Az (Af 1) fun ds => Ag rfl (A4 Dh Aa hxs.plain) <| Aj (Af 1) <| Ag rfl (A4 Dh Aa hys.plain) <| Aw (Af 1) <| Ai Aa (dT (by omega)) <| AD (Af 1) <| At <| Ax <| Ap rfl Bd ?_
 show _ = _
 rw [dF (fun h : xs = ys => hll (by rw [← hpm, ← hqm] at h; simpa using congrArg List.length h))]; rfl
end
section
set_option maxRecDepth 100000
open Go.RowKit
theorem bd_33 : Body Tryz.prog 33 := AE (by kernel_rfl)
theorem VO : Body Tryz.prog 10 := AE (by kernel_rfl)
theorem bd_39 : Body Tryz.prog 39 := AE (by kernel_rfl)
theorem Px : Body Tryz.prog 11 := AE (by kernel_rfl)
theorem bd_34 : Body Tryz.prog 34 := AE (by kernel_rfl)
theorem bd_41 : Body Tryz.prog 41 := AE (by kernel_rfl)
theorem bd_37 : Body Tryz.prog 37 := AE (by kernel_rfl)
theorem bd_38 : Body Tryz.prog 38 := AE (by kernel_rfl)
theorem bd_32 : Body Tryz.prog 32 := AE (by kernel_rfl)
theorem LW : Body Tryz.prog 36 := AE (by kernel_rfl)
theorem Ni : Body Tryz.prog 40 := AE (by kernel_rfl)
theorem Rq : BuildT Tryz.prog 54 [.int .i64 0, .int .i64 0] [(0, 1), (1, 1)] := BD KQ (by kernel_rfl) (by decide)
theorem Uy {F : Heap} {b T : Nat} (h : F b = some (bx T [.int .i64 1, .int .i64 3])) : Nats F (.slice (some ⟨b, 0, none⟩) 2 2) [1, 3] :=
 Cw (xs := ([1, 3] : List Nat)) h rfl rfl (fun _ => rfl) (by decide)
theorem S0 {F : Heap} {b T : Nat} (h : F b = some (bx T [.int .i64 0, .int .i64 1, .int .i64 3])) : Nats F (.slice (some ⟨b, 0, none⟩) 3 3) [0, 1, 3] :=
 Cw (xs := ([0, 1, 3] : List Nat)) h rfl rfl (fun _ => rfl) (by decide)
theorem Sz {F : Heap} {b T : Nat} (h : F b = some (bx T [.int .i64 1, .int .i64 2, .int .i64 3])) : Nats F (.slice (some ⟨b, 0, none⟩) 3 3) [1, 2, 3] :=
 Cw (xs := ([1, 2, 3] : List Nat)) h rfl rfl (fun _ => rfl) (by decide)
theorem OI {F : Heap} {b T : Nat} (h : F b = some (bx T [.int .i64 0, .int .i64 2])) : Nats F (.slice (some ⟨b, 0, none⟩) 2 2) [0, 2] :=
 Cw (xs := ([0, 2] : List Nat)) h rfl rfl (fun _ => rfl) (by decide)
theorem PT {F : Heap} {b T : Nat} (h : F b = some (bx T [.int .i64 0, .int .i64 1, .int .i64 2, .int .i64 3])) : Nats F (.slice (some ⟨b, 0, none⟩) 4 4) [0, 1, 2, 3] :=
 Cw (xs := ([0, 1, 2, 3] : List Nat)) h rfl rfl (fun _ => rfl) (by decide)
theorem SP {F : Heap} {b T : Nat} (h : F b = some (bx T [.int .i64 0, .bool true, .int .i64 60, .int .i64 60, .int .i64 1, .bool true, .int .i64 48, .int .i64 48])) : Sl F (.slice (some ⟨b, 0, none⟩) 2 2) 4 Ent.enc [ent1 0 60 60, ent1 1 48 48] :=
 Cw (xs := [ent1 0 60 60, ent1 1 48 48]) h rfl rfl (fun _ => rfl) (by decide)
theorem SO {F : Heap} {b T : Nat} (h : F b = some (bx T [.int .i64 0, .bool true, .int .i64 20, .int .i64 50])) : Sl F (.slice (some ⟨b, 0, none⟩) 1 1) 4 Ent.enc [ent1 0 20 50] :=
 Cw (xs := [ent1 0 20 50]) h rfl rfl (fun _ => rfl) (by decide)
theorem SN {F : Heap} {b T : Nat} (h : F b = some (bx T [.int .i64 0, .bool true, .int .i64 45, .int .i64 45, .int .i64 1, .bool true, .int .i64 48, .int .i64 48, .int .i64 2, .bool true, .int .i64 30, .int .i64 30])) : Sl F (.slice (some ⟨b, 0, none⟩) 3 3) 4 Ent.enc [ent1 0 45 45, ent1 1 48 48, ent1 2 30 30] :=
 Cw (xs := [ent1 0 45 45, ent1 1 48 48, ent1 2 30 30]) h rfl rfl (fun _ => rfl) (by decide)
theorem SM {F : Heap} {b T : Nat} (h : F b = some (bx T [.int .i64 2, .bool true, .int .i64 30, .int .i64 30])) : Sl F (.slice (some ⟨b, 0, none⟩) 1 1) 4 Ent.enc [ent1 2 30 30] :=
 Cw (xs := [ent1 2 30 30]) h rfl rfl (fun _ => rfl) (by decide)
theorem Sn {F : Heap} {b T : Nat} (h : F b = some (bx T [.int .i64 (0), .int .i64 60, .int .i64 (1), .int .i64 73, .int .i64 (-1), .int .i64 0])) : Sl F (.slice (some ⟨b, 0, none⟩) 3 3) 2 Res.enc [⟨0, 60⟩, ⟨1, 73⟩, ⟨-1, 0⟩] :=
 Cw (xs := ([⟨0, 60⟩, ⟨1, 73⟩, ⟨-1, 0⟩] : List Res)) h rfl rfl (fun _ => rfl) (by decide)
theorem Sm {F : Heap} {b T : Nat} (h : F b = some (bx T [.int .i64 (0), .int .i64 20, .int .i64 (1), .int .i64 73, .int .i64 (-1), .int .i64 0])) : Sl F (.slice (some ⟨b, 0, none⟩) 3 3) 2 Res.enc [⟨0, 20⟩, ⟨1, 73⟩, ⟨-1, 0⟩] :=
 Cw (xs := ([⟨0, 20⟩, ⟨1, 73⟩, ⟨-1, 0⟩] : List Res)) h rfl rfl (fun _ => rfl) (by decide)
theorem Q5 {F : Heap} {b T : Nat} (h : F b = some (bx T [.int .i64 0, .int .i64 14])) : Sl F (.slice (some ⟨b, 0, none⟩) 1 1) 2 Back.enc (back1 14) :=
 Cw (xs := back1 14) h rfl rfl (fun _ => rfl) (by decide)
theorem Q4 {F : Heap} {b T : Nat} (h : F b = some (bx T [.int .i64 0, .int .i64 15])) : Sl F (.slice (some ⟨b, 0, none⟩) 1 1) 2 Back.enc (back1 15) :=
 Cw (xs := back1 15) h rfl rfl (fun _ => rfl) (by decide)
theorem Es {F : Heap} {b T : Nat} {x y z : Int} (h : F b = some (bx T [.int .i64 x, .int .i64 y, .int .i64 z])) : Ints F (.slice (some ⟨b, 0, none⟩) 3 3) [x, y, z] :=
 Cw (xs := [x, y, z]) h rfl rfl (fun _ => rfl) (by decide)
theorem SG {F : Heap} {b T : Nat} {x y z w : Int} (h : F b = some (bx T [.int .i64 x, .int .i64 y, .int .i64 z, .int .i64 w])) : Ints F (.slice (some ⟨b, 0, none⟩) 4 4) [x, y, z, w] :=
 Cw (xs := [x, y, z, w]) h rfl rfl (fun _ => rfl) (by decide)
@[reducible] def valE (v : Value) : List Value := [v]
theorem RK {F : Heap} {b T : Nat} {x y z : Value} (h : F b = some (bx T [x, y, z])) : Sl F (.slice (some ⟨b, 0, none⟩) 3 3) 1 valE [x, y, z] :=
 Cw (xs := [x, y, z]) h rfl rfl (fun _ => rfl) (by decide)
theorem Sl.val {F : Heap} {v : Value} {ps : List (Value × List Nat)} (h : Sl F v 1 valE (ps.map (·.1))) : Sl F v 1 slE ps := by
 refine ⟨by simpa using h.plain, fun i hi j u hu => h.cells i (by simpa using hi) j u ?_⟩
 simpa [valE, slE] using hu
theorem lsts3 {F : Heap} {v x y z : Value} {a b c : List Nat} (h : Sl F v 1 valE [x, y, z]) (h1 : Nats F x a) (h2 : Nats F y b) (h3 : Nats F z c) : Lsts F v [a, b, c] :=
 ⟨[(x, a), (y, b), (z, c)], Sl.val h, by simp [h1, h2, h3], rfl⟩
def tupA (v : Value) (i : Nat) : Value := match v with
 | .tuple a => a.toList[i]?.getD v
 | _ => v
theorem LstsR.ans {F : Heap} {u : Value} {p q : List (List Nat) × Int} (h : LstsR F u p) (e : p = q) : u = .tuple #[tupA u 0, .int .i64 q.2] ∧ Lsts F (tupA u 0) q.1 := by
 subst e; obtain ⟨v, rfl, h⟩ := h; exact ⟨rfl, h⟩
theorem NatsR.ans {F : Heap} {u : Value} {p q : List Nat × Int} (h : NatsR F u p) (e : p = q) : u = .tuple #[tupA u 0, .int .i64 q.2] ∧ Nats F (tupA u 0) q.1 := by
 subst e; obtain ⟨v, rfl, h⟩ := h; exact ⟨rfl, h⟩
theorem MemR.ans {F : Heap} {u : Value} {p q : Mem} (h : MemR F u p) (e : p = q) : u = .tuple #[tupA u 0, tupA u 1, .int .i64 q.2.2] ∧ Nats F (tupA u 0) q.1 ∧ Nats F (tupA u 1) q.2.1 := by
 subst e; obtain ⟨v, w, rfl, h1, h2⟩ := h; exact ⟨rfl, h1, h2⟩
theorem Fm {F : Heap} : Ok Tryz.prog 7 [].toArray F fun u _ => u = .bool true := by
 refine Ok.intro Tryz.func7 rfl Tryz.ntmps7 rfl fun w0 => AD (Af 1) <| Ac <| Am fun ds => A5 rfl <| Bi bd_32 Aa .nil sale_ok fun v1 F2 hr3 hF4 => ?_
 obtain ⟨vs, vb, vl, vn, vd, rfl, hr⟩ := hr3
 refine A5 rfl <| AO Tq rfl fun b5 hb5 nb5 => AS <| AP sz_33 Aa Aa (i := 0) rfl rfl rfl rfl hr.ones (.here) <| Ao <| Ab <| Az (Af 1) fun ds => AN rfl (Ay bd_33 Aa AW (next_ok hr 50) (fun _ _ h => h.trans (show _ = Value.tuple #[.int .i64 60, .int .i64 0] by rw [ev_n1]))) <| Aw (Af 5) <| Az (Af 1) fun ds => A5 rfl <| Bi VO Aa AW ((Hk hr Sl.nil).mono fun u F2 _ h => (by rw [ev_s1] at h; exact h : ∃ ws0, u = .tuple #[ws0, .int .i64 0] ∧ Sl F2 ws0 2 Res.enc [⟨0, 60⟩, ⟨1, 73⟩, ⟨-1, 0⟩])) fun v6 F7 hr8 hF9 => ?_
 obtain ⟨hq1_, rfl, hq1⟩ := hr8
 refine Aw (Af 5) <| Az (Af 1) fun ds => A5 rfl <| AM A9 B2 rfl (.cons Aa (.cons Aa (.cons Aa .nil))) rfl rfl (by decide) (by simp [Value.oneCell']) fun b10 hb10 nb10 => AJ (i := 0) rfl hb10 .here fun F11 hF12 hz13 => ?_
 replace hr := hr.mono (Heap.le_trans hF9 hF12)
 have hsl14 := Es hz13
 refine A5 rfl <| Bi VO Aa AW ((Hk hr hsl14).mono fun u F2 _ h => (by rw [ev_s2] at h; exact h : ∃ ws0, u = .tuple #[ws0, .int .i64 0] ∧ Sl F2 ws0 2 Res.enc [⟨0, 20⟩, ⟨1, 73⟩, ⟨-1, 0⟩])) fun v15 F16 hr17 hF18 => ?_
 obtain ⟨hq2_, rfl, hq2⟩ := hr17
 refine Aw (Af 5) <| Az (Af 1) fun ds => A5 rfl <| AM A9 B2 rfl (.cons Aa (.cons Aa .nil)) rfl rfl (by decide) (by simp [Value.oneCell']) fun b19 hb19 nb19 => AJ (i := 0) rfl hb19 .here fun F20 hF21 hz22 => ?_
 have hsl23 := BW hz22
 refine Ag rfl (Bm Rq (.cons Aa rfl (.cons Aa rfl .nil)) (.cons rfl rfl (Nat.le_of_ble_eq_true rfl) (.cons (.here) .nil) (.cons rfl rfl (Nat.le_of_ble_eq_true rfl) (.cons (.next <| .here) .nil) .nil))) <| A5 rfl <| B5 (offs := [(0, 2)]) (zl := [.int .i64 0, .int .i64 0]) Kg KQ rfl (.cons Aa rfl .nil) (by intro i p h; rcases i with _ | i <;> simp at h <;> subst h <;> rfl) (.cons rfl rfl (Nat.le_of_ble_eq_true rfl) (.cons (.here) (.cons (.next <| .here) .nil)) .nil) (by decide) (by decide) fun b24 hb24 nb24 => AJ (i := 0) rfl hb24 .here fun F25 hF26 hz27 => ?_
 replace hr := hr.mono (Heap.le_trans hF18 (Heap.le_trans hF21 hF26))
 replace hsl23 := hsl23.mono hF26
 have hsl28 := Q5 hz27
 refine A5 rfl <| Bi Px Aa AW ((FI hr hsl23 hsl28).mono fun u F2 _ h => (by rw [ev_a1] at h; exact h : ∃ ws0 ws1, u = .tuple #[ws0, ws1, .int .i64 12, .int .i64 0] ∧ Ints F2 ws0 [0, 53, 0, 0] ∧ Ints F2 ws1 [41])) fun v29 F30 hr31 hF32 => ?_
 obtain ⟨hq3_, hq4_, rfl, hq3, hq4⟩ := hr31
 refine Aw (Af 9) <| Az (Af 1) fun ds => A5 rfl <| AM A9 B2 rfl (.cons Aa (.cons Aa .nil)) rfl rfl (by decide) (by simp [Value.oneCell']) fun b33 hb33 nb33 => AJ (i := 0) rfl hb33 .here fun F34 hF35 hz36 => ?_
 have hsl37 := BW hz36
 refine Ag rfl (Bm Rq (.cons Aa rfl (.cons Aa rfl .nil)) (.cons rfl rfl (Nat.le_of_ble_eq_true rfl) (.cons (.here) .nil) (.cons rfl rfl (Nat.le_of_ble_eq_true rfl) (.cons (.next <| .here) .nil) .nil))) <| A5 rfl <| B5 (offs := [(0, 2)]) (zl := [.int .i64 0, .int .i64 0]) Kg KQ rfl (.cons Aa rfl .nil) (by intro i p h; rcases i with _ | i <;> simp at h <;> subst h <;> rfl) (.cons rfl rfl (Nat.le_of_ble_eq_true rfl) (.cons (.here) (.cons (.next <| .here) .nil)) .nil) (by decide) (by decide) fun b38 hb38 nb38 => AJ (i := 0) rfl hb38 .here fun F39 hF40 hz41 => ?_
 replace hr := hr.mono (Heap.le_trans hF32 (Heap.le_trans hF35 hF40))
 replace hsl37 := hsl37.mono hF40
 have hsl42 := Q4 hz41
 refine A5 rfl <| Bi Px Aa AW ((FI hr hsl37 hsl42).mono fun u F2 _ h => (by rw [ev_a2] at h; exact h : ∃ ws0 ws1, u = .tuple #[ws0, ws1, .int .i64 0, .int .i64 7] ∧ Ints F2 ws0 [] ∧ Ints F2 ws1 [])) fun v43 F44 hr45 hF46 => ?_
 obtain ⟨hq5_, hq6_, rfl, hq5, hq6⟩ := hr45
 refine Aw (Af 9) <| Az (Af 1) fun ds => A5 rfl <| AM A9 B2 rfl (.cons Aa (.cons Aa (.cons Aa .nil))) rfl rfl (by decide) (by simp [Value.oneCell']) fun b47 hb47 nb47 => AJ (i := 0) rfl hb47 .here fun F48 hF49 hz50 => ?_
 replace hr := hr.mono (Heap.le_trans hF46 hF49)
 have hsl51 := Es hz50
 refine A5 rfl <| Bi bd_34 Aa AW ((TM hr hsl51).mono fun u F2 _ h => (by rw [ev_h1] at h; exact h : ∃ ws0, u = .tuple #[ws0, .int .i64 0] ∧ Ints F2 ws0 [14, 13, 13])) fun v52 F53 hr54 hF55 => ?_
 replace hr := hr.mono hF55
 replace hq1 := hq1.mono (Heap.le_trans hF12 (Heap.le_trans hF18 (Heap.le_trans hF21 (Heap.le_trans hF26 (Heap.le_trans hF32 (Heap.le_trans hF35 (Heap.le_trans hF40 (Heap.le_trans hF46 (Heap.le_trans hF49 hF55)))))))))
 replace hsl14 := hsl14.mono (Heap.le_trans hF18 (Heap.le_trans hF21 (Heap.le_trans hF26 (Heap.le_trans hF32 (Heap.le_trans hF35 (Heap.le_trans hF40 (Heap.le_trans hF46 (Heap.le_trans hF49 hF55))))))))
 replace hq2 := hq2.mono (Heap.le_trans hF21 (Heap.le_trans hF26 (Heap.le_trans hF32 (Heap.le_trans hF35 (Heap.le_trans hF40 (Heap.le_trans hF46 (Heap.le_trans hF49 hF55)))))))
 have hU154 := Heap.le_trans hF32 (Heap.le_trans hF35 (Heap.le_trans hF40 (Heap.le_trans hF46 (Heap.le_trans hF49 hF55))))
 have hU156 := Heap.le_trans hF35 (Heap.le_trans hF40 (Heap.le_trans hF46 (Heap.le_trans hF49 hF55)))
 replace hq3 := hq3.mono hU156
 replace hq4 := hq4.mono hU156
 have hU158 := Heap.le_trans hF46 (Heap.le_trans hF49 hF55)
 have hU160 := Heap.le_trans hF49 hF55
 obtain ⟨hq7_, rfl, hq7⟩ := hr54
 refine Aw (Af 5) <| Ac ?_
 refine J0 10 (.inl rfl) (fun _ _ h => h) (by kernel_rfl) (by kernel_rfl) false rfl ([fun F v => v = .agg #[vs, .int .i64 100, .int .i64 150, .int .i64 14, vb, vl, vn, vd], fun F v => v = .agg #[.int .i64 0, .bool true, .int .i64 60, .int .i64 60], fun F v => v = .agg #[.int .i64 1, .bool true, .int .i64 48, .int .i64 48], fun F v => Sl F v 4 Ent.enc [ent1 0 60 60, ent1 1 48 48], fun F v => v = .tuple #[tupA v 0, .int .i64 0] ∧ Lsts F (tupA v 0) [[1, 3], [0, 1, 3], [1, 2, 3]], fun F v => v = .tuple #[tupA v 0, .int .i64 0] ∧ Lsts F (tupA v 0) [[1, 3], [0, 1, 3], [1, 2, 3]], fun F v => Lsts F v [[1, 3], [0, 1, 3], [1, 2, 3]], fun F v => v = .int .i64 0, fun F v => Lsts F v [[1, 3], [0, 1, 3], [1, 2, 3]], fun F v => v = .int .i64 0]) (⟨fun F F2 v hF h => h, fun F F2 v hF h => h, fun F F2 v hF h => h, fun F F2 v hF h => h.mono hF, fun F F2 v hF h => ⟨h.1, h.2.mono hF⟩, fun F F2 v hF h => ⟨h.1, h.2.mono hF⟩, fun F F2 v hF h => h.mono hF, fun F F2 v hF h => h, fun F F2 v hF h => h.mono hF, fun F F2 v hF h => h, trivial⟩) (fun ds => ?_) (fun ds => ?_)
 ·refine ⟨⟨⟨⟨⟨⟨⟨⟨⟨⟨trivial, ?_⟩, ?_⟩, ?_⟩, ?_⟩, ?_⟩, ?_⟩, ?_⟩, ?_⟩, ?_⟩, ?_⟩
  ·intro e1 F1 hF1 he hj
   refine DX rfl (AC EG (Bc (Bl he (by kernel_rfl)) <| Cv rfl <| DU rfl <| JH rfl <| GS rfl <| FP) rfl rfl (Bz 0 rfl)) rfl
  ·intro e1 F1 hF1 he hj
   refine ⟨_, _, _, _, _, rfl, ?_⟩
   refine Be (Ay LW Aa AW (EC _ _ _) (fun _ _ h => h)) ⟨_, rfl, Heap.le_refl _, rfl⟩
  ·intro e1 F1 hF1 he hj
   refine ⟨_, _, _, _, _, rfl, ?_⟩
   refine Be (Ay LW Aa AW (EC _ _ _) (fun _ _ h => h)) ⟨_, rfl, Heap.le_refl _, rfl⟩
  ·intro e1 F1 hF1 he hj
   have g72 : (e1 72) = .agg #[.int .i64 0, .bool true, .int .i64 60, .int .i64 60] := B7 hj 1
   have g73 : (e1 73) = .agg #[.int .i64 1, .bool true, .int .i64 48, .int .i64 48] := B7 hj 2
   refine ⟨_, _, _, _, _, rfl, ?_⟩
   refine BP (B5 (offs := [(0, 4), (4, 4)]) (zl := [.int .i64 0, .bool false, .int .i64 0, .int .i64 0, .int .i64 0, .bool false, .int .i64 0, .int .i64 0]) Dx FL rfl (.cons (AY g72) rfl (.cons (AY g73) rfl .nil)) (by intro i p h; rcases i with _ | _ | i <;> simp at h <;> subst h <;> rfl) (.cons rfl rfl (Nat.le_of_ble_eq_true rfl) (.cons (.here) (.cons (.next <| .here) (.cons (.next <| .next <| .here) (.cons (.next <| .next <| .next <| .here) .nil)))) (.cons rfl rfl (Nat.le_of_ble_eq_true rfl) (.cons (.next <| .next <| .next <| .next <| .here) (.cons (.next <| .next <| .next <| .next <| .next <| .here) (.cons (.next <| .next <| .next <| .next <| .next <| .next <| .here) (.cons (.next <| .next <| .next <| .next <| .next <| .next <| .next <| .here) .nil)))) .nil)) (by decide) (by decide) fun b hb nb => ⟨b, _, hb, rfl, fun F2 hF2 hz => ⟨F2, rfl, hF2, (SP hz)⟩⟩)
  ·intro e1 F1 hF1 he hj
   replace hr := hr.mono hF1
   have g71 : (e1 71) = .agg #[vs, .int .i64 100, .int .i64 150, .int .i64 14, vb, vl, vn, vd] := B7 hj 0
   have g74 : Sl F1 (e1 74) 4 Ent.enc [ent1 0 60 60, ent1 1 48 48] := B7 hj 3
   refine ⟨_, _, _, _, _, rfl, ?_⟩
   refine Bi RB Aa (.cons (AY g71) (.cons (AY rfl) .nil)) (El hr g74) fun v2 F2 hr hF2 => ⟨F2, rfl, hF2, (hr.ans ev_r1)⟩
  ·intro e1 F1 hF1 he hj
   have g75 : (e1 75) = .tuple #[tupA (e1 75) 0, .int .i64 0] ∧ Lsts F1 (tupA (e1 75) 0) [[1, 3], [0, 1, 3], [1, 2, 3]] := B7 hj 4
   refine DX rfl (AI (AY g75.1)) ⟨rfl, g75.2⟩
  ·intro e1 F1 hF1 he hj
   have g70 : (e1 70) = .tuple #[tupA (e1 70) 0, .int .i64 0] ∧ Lsts F1 (tupA (e1 70) 0) [[1, 3], [0, 1, 3], [1, 2, 3]] := B7 hj 5
   refine DX rfl (CC (AY g70.1) rfl) g70.2
  ·intro e1 F1 hF1 he hj
   have g70 : (e1 70) = .tuple #[tupA (e1 70) 0, .int .i64 0] ∧ Lsts F1 (tupA (e1 70) 0) [[1, 3], [0, 1, 3], [1, 2, 3]] := B7 hj 5
   refine DX rfl (CC (AY g70.1) rfl) rfl
  ·intro e1 F1 hF1 he hj
   have g76 : Lsts F1 (e1 76) [[1, 3], [0, 1, 3], [1, 2, 3]] := B7 hj 6
   refine DX rfl (Bk (AY rfl)) g76
  intro e1 F1 hF1 he hj
  have g77 : (e1 77) = .int .i64 0 := B7 hj 7
  refine DX rfl (Bk (AY g77)) rfl
 intro e59 F56 hF57 he58 hj
 replace hr := hr.mono hF57
 replace hq1 := hq1.mono hF57
 replace hq2 := hq2.mono hF57
 replace hq3 := hq3.mono hF57
 replace hq4 := hq4.mono hF57
 replace hq7 := hq7.mono hF57
 have g18 : Lsts F56 (e59 18) [[1, 3], [0, 1, 3], [1, 2, 3]] := hj 8 (by decide)
 have g19 : (e59 19) = .int .i64 0 := hj 9 (by decide)
 refine Ab <| Ac ?_
 refine J0 11 (.inl rfl) (fun _ _ h => h) (by kernel_rfl) (by kernel_rfl) false rfl ([fun F v => v = .agg #[vs, .int .i64 100, .int .i64 150, .int .i64 14, vb, vl, vn, vd], fun F v => v = .agg #[.int .i64 0, .bool true, .int .i64 20, .int .i64 50], fun F v => Sl F v 4 Ent.enc [ent1 0 20 50], fun F v => v = .tuple #[tupA v 0, tupA v 1, .int .i64 0] ∧ Nats F (tupA v 0) [0, 2] ∧ Nats F (tupA v 1) [0, 1, 2, 3], fun F v => v = .tuple #[tupA v 0, tupA v 1, .int .i64 0] ∧ Nats F (tupA v 0) [0, 2] ∧ Nats F (tupA v 1) [0, 1, 2, 3], fun F v => Nats F v [0, 2], fun F v => Nats F v [0, 1, 2, 3], fun F v => v = .int .i64 0, fun F v => Nats F v [0, 2], fun F v => Nats F v [0, 1, 2, 3], fun F v => v = .int .i64 0]) (⟨fun F F2 v hF h => h, fun F F2 v hF h => h, fun F F2 v hF h => h.mono hF, fun F F2 v hF h => ⟨h.1, h.2.1.mono hF, h.2.2.mono hF⟩, fun F F2 v hF h => ⟨h.1, h.2.1.mono hF, h.2.2.mono hF⟩, fun F F2 v hF h => h.mono hF, fun F F2 v hF h => h.mono hF, fun F F2 v hF h => h, fun F F2 v hF h => h.mono hF, fun F F2 v hF h => h.mono hF, fun F F2 v hF h => h, trivial⟩) (fun ds => ?_) (fun ds => ?_)
 ·refine ⟨⟨⟨⟨⟨⟨⟨⟨⟨⟨⟨trivial, ?_⟩, ?_⟩, ?_⟩, ?_⟩, ?_⟩, ?_⟩, ?_⟩, ?_⟩, ?_⟩, ?_⟩, ?_⟩
  ·intro e1 F1 hF1 he hj
   refine DX rfl (AC EG (Bc (Bl he (by kernel_rfl)) <| Bc (Bl he58 (by kernel_rfl)) <| Cv rfl <| DU rfl <| JH rfl <| GS rfl <| FP) rfl rfl (Bz 0 rfl)) rfl
  ·intro e1 F1 hF1 he hj
   refine ⟨_, _, _, _, _, rfl, ?_⟩
   refine Be (Ay LW Aa AW (EC _ _ _) (fun _ _ h => h)) ⟨_, rfl, Heap.le_refl _, rfl⟩
  ·intro e1 F1 hF1 he hj
   have g80 : (e1 80) = .agg #[.int .i64 0, .bool true, .int .i64 20, .int .i64 50] := B7 hj 1
   refine ⟨_, _, _, _, _, rfl, ?_⟩
   refine BP (B5 (offs := [(0, 4)]) (zl := [.int .i64 0, .bool false, .int .i64 0, .int .i64 0]) Dx FL rfl (.cons (AY g80) rfl .nil) (by intro i p h; rcases i with _ | i <;> simp at h <;> subst h <;> rfl) (.cons rfl rfl (Nat.le_of_ble_eq_true rfl) (.cons (.here) (.cons (.next <| .here) (.cons (.next <| .next <| .here) (.cons (.next <| .next <| .next <| .here) .nil)))) .nil) (by decide) (by decide) fun b hb nb => ⟨b, _, hb, rfl, fun F2 hF2 hz => ⟨F2, rfl, hF2, (SO hz)⟩⟩)
  ·intro e1 F1 hF1 he hj
   replace hr := hr.mono hF1
   have g79 : (e1 79) = .agg #[vs, .int .i64 100, .int .i64 150, .int .i64 14, vb, vl, vn, vd] := B7 hj 0
   have g81 : Sl F1 (e1 81) 4 Ent.enc [ent1 0 20 50] := B7 hj 2
   refine ⟨_, _, _, _, _, rfl, ?_⟩
   refine Bi bd_37 Aa (.cons (AY g79) (.cons (AY rfl) .nil)) (PW hr g81) fun v2 F2 hr hF2 => ⟨F2, rfl, hF2, (hr.ans ev_m1)⟩
  ·intro e1 F1 hF1 he hj
   have g82 : (e1 82) = .tuple #[tupA (e1 82) 0, tupA (e1 82) 1, .int .i64 0] ∧ Nats F1 (tupA (e1 82) 0) [0, 2] ∧ Nats F1 (tupA (e1 82) 1) [0, 1, 2, 3] := B7 hj 3
   refine DX rfl (AI (AY g82.1)) ⟨rfl, g82.2⟩
  ·intro e1 F1 hF1 he hj
   have g78 : (e1 78) = .tuple #[tupA (e1 78) 0, tupA (e1 78) 1, .int .i64 0] ∧ Nats F1 (tupA (e1 78) 0) [0, 2] ∧ Nats F1 (tupA (e1 78) 1) [0, 1, 2, 3] := B7 hj 4
   refine DX rfl (CC (AY g78.1) rfl) g78.2.1
  ·intro e1 F1 hF1 he hj
   have g78 : (e1 78) = .tuple #[tupA (e1 78) 0, tupA (e1 78) 1, .int .i64 0] ∧ Nats F1 (tupA (e1 78) 0) [0, 2] ∧ Nats F1 (tupA (e1 78) 1) [0, 1, 2, 3] := B7 hj 4
   refine DX rfl (CC (AY g78.1) rfl) g78.2.2
  ·intro e1 F1 hF1 he hj
   have g78 : (e1 78) = .tuple #[tupA (e1 78) 0, tupA (e1 78) 1, .int .i64 0] ∧ Nats F1 (tupA (e1 78) 0) [0, 2] ∧ Nats F1 (tupA (e1 78) 1) [0, 1, 2, 3] := B7 hj 4
   refine DX rfl (CC (AY g78.1) rfl) rfl
  ·intro e1 F1 hF1 he hj
   have g83 : Nats F1 (e1 83) [0, 2] := B7 hj 5
   refine DX rfl (Bk (AY rfl)) g83
  ·intro e1 F1 hF1 he hj
   have g84 : Nats F1 (e1 84) [0, 1, 2, 3] := B7 hj 6
   refine DX rfl (Bk (AY rfl)) g84
  intro e1 F1 hF1 he hj
  have g85 : (e1 85) = .int .i64 0 := B7 hj 7
  refine DX rfl (Bk (AY g85)) rfl
 intro e63 F60 hF61 he62 hj
 replace hr := hr.mono hF61
 replace hq1 := hq1.mono hF61
 replace hq2 := hq2.mono hF61
 replace hq3 := hq3.mono hF61
 replace hq4 := hq4.mono hF61
 replace hq7 := hq7.mono hF61
 replace g18 := g18.mono hF61
 have g20 : Nats F60 (e63 20) [0, 2] := hj 8 (by decide)
 have g21 : Nats F60 (e63 21) [0, 1, 2, 3] := hj 9 (by decide)
 have g22 : (e63 22) = .int .i64 0 := hj 10 (by decide)
 refine Ab <| Ac ?_
 refine J0 11 (.inl rfl) (fun _ _ h => h) (by kernel_rfl) (by kernel_rfl) false rfl ([fun F v => v = .agg #[vs, .int .i64 100, .int .i64 150, .int .i64 14, vb, vl, vn, vd], fun F v => v = .agg #[.int .i64 0, .bool true, .int .i64 45, .int .i64 45], fun F v => v = .agg #[.int .i64 1, .bool true, .int .i64 48, .int .i64 48], fun F v => v = .agg #[.int .i64 2, .bool true, .int .i64 30, .int .i64 30], fun F v => Sl F v 4 Ent.enc [ent1 0 45 45, ent1 1 48 48, ent1 2 30 30], fun F v => v = .tuple #[tupA v 0, .int .i64 0] ∧ Nats F (tupA v 0) [0, 2], fun F v => v = .tuple #[tupA v 0, .int .i64 0] ∧ Nats F (tupA v 0) [0, 2], fun F v => Nats F v [0, 2], fun F v => v = .int .i64 0, fun F v => Nats F v [0, 2], fun F v => v = .int .i64 0]) (⟨fun F F2 v hF h => h, fun F F2 v hF h => h, fun F F2 v hF h => h, fun F F2 v hF h => h, fun F F2 v hF h => h.mono hF, fun F F2 v hF h => ⟨h.1, h.2.mono hF⟩, fun F F2 v hF h => ⟨h.1, h.2.mono hF⟩, fun F F2 v hF h => h.mono hF, fun F F2 v hF h => h, fun F F2 v hF h => h.mono hF, fun F F2 v hF h => h, trivial⟩) (fun ds => ?_) (fun ds => ?_)
 ·refine ⟨⟨⟨⟨⟨⟨⟨⟨⟨⟨⟨trivial, ?_⟩, ?_⟩, ?_⟩, ?_⟩, ?_⟩, ?_⟩, ?_⟩, ?_⟩, ?_⟩, ?_⟩, ?_⟩
  ·intro e1 F1 hF1 he hj
   refine DX rfl (AC EG (Bc (Bl he (by kernel_rfl)) <| Bc (Bl he62 (by kernel_rfl)) <| Bc (Bl he58 (by kernel_rfl)) <| Cv rfl <| DU rfl <| JH rfl <| GS rfl <| FP) rfl rfl (Bz 0 rfl)) rfl
  ·intro e1 F1 hF1 he hj
   refine ⟨_, _, _, _, _, rfl, ?_⟩
   refine Be (Ay LW Aa AW (EC _ _ _) (fun _ _ h => h)) ⟨_, rfl, Heap.le_refl _, rfl⟩
  ·intro e1 F1 hF1 he hj
   refine ⟨_, _, _, _, _, rfl, ?_⟩
   refine Be (Ay LW Aa AW (EC _ _ _) (fun _ _ h => h)) ⟨_, rfl, Heap.le_refl _, rfl⟩
  ·intro e1 F1 hF1 he hj
   refine ⟨_, _, _, _, _, rfl, ?_⟩
   refine Be (Ay LW Aa AW (EC _ _ _) (fun _ _ h => h)) ⟨_, rfl, Heap.le_refl _, rfl⟩
  ·intro e1 F1 hF1 he hj
   have g88 : (e1 88) = .agg #[.int .i64 0, .bool true, .int .i64 45, .int .i64 45] := B7 hj 1
   have g89 : (e1 89) = .agg #[.int .i64 1, .bool true, .int .i64 48, .int .i64 48] := B7 hj 2
   have g90 : (e1 90) = .agg #[.int .i64 2, .bool true, .int .i64 30, .int .i64 30] := B7 hj 3
   refine ⟨_, _, _, _, _, rfl, ?_⟩
   refine BP (B5 (offs := [(0, 4), (4, 4), (8, 4)]) (zl := [.int .i64 0, .bool false, .int .i64 0, .int .i64 0, .int .i64 0, .bool false, .int .i64 0, .int .i64 0, .int .i64 0, .bool false, .int .i64 0, .int .i64 0]) Dx FL rfl (.cons (AY g88) rfl (.cons (AY g89) rfl (.cons (AY g90) rfl .nil))) (by intro i p h; rcases i with _ | _ | _ | i <;> simp at h <;> subst h <;> rfl) (.cons rfl rfl (Nat.le_of_ble_eq_true rfl) (.cons (.here) (.cons (.next <| .here) (.cons (.next <| .next <| .here) (.cons (.next <| .next <| .next <| .here) .nil)))) (.cons rfl rfl (Nat.le_of_ble_eq_true rfl) (.cons (.next <| .next <| .next <| .next <| .here) (.cons (.next <| .next <| .next <| .next <| .next <| .here) (.cons (.next <| .next <| .next <| .next <| .next <| .next <| .here) (.cons (.next <| .next <| .next <| .next <| .next <| .next <| .next <| .here) .nil)))) (.cons rfl rfl (Nat.le_of_ble_eq_true rfl) (.cons (.next <| .next <| .next <| .next <| .next <| .next <| .next <| .next <| .here) (.cons (.next <| .next <| .next <| .next <| .next <| .next <| .next <| .next <| .next <| .here) (.cons (.next <| .next <| .next <| .next <| .next <| .next <| .next <| .next <| .next <| .next <| .here) (.cons (.next <| .next <| .next <| .next <| .next <| .next <| .next <| .next <| .next <| .next <| .next <| .here) .nil)))) .nil))) (by decide) (by decide) fun b hb nb => ⟨b, _, hb, rfl, fun F2 hF2 hz => ⟨F2, rfl, hF2, (SN hz)⟩⟩)
  ·intro e1 F1 hF1 he hj
   replace hr := hr.mono hF1
   have g87 : (e1 87) = .agg #[vs, .int .i64 100, .int .i64 150, .int .i64 14, vb, vl, vn, vd] := B7 hj 0
   have g91 : Sl F1 (e1 91) 4 Ent.enc [ent1 0 45 45, ent1 1 48 48, ent1 2 30 30] := B7 hj 4
   refine ⟨_, _, _, _, _, rfl, ?_⟩
   refine Bi bd_38 Aa (.cons (AY g87) (.cons (AY rfl) .nil)) (T4 hr g91) fun v2 F2 hr hF2 => ⟨F2, rfl, hF2, (hr.ans ev_w1)⟩
  ·intro e1 F1 hF1 he hj
   have g92 : (e1 92) = .tuple #[tupA (e1 92) 0, .int .i64 0] ∧ Nats F1 (tupA (e1 92) 0) [0, 2] := B7 hj 5
   refine DX rfl (AI (AY g92.1)) ⟨rfl, g92.2⟩
  ·intro e1 F1 hF1 he hj
   have g86 : (e1 86) = .tuple #[tupA (e1 86) 0, .int .i64 0] ∧ Nats F1 (tupA (e1 86) 0) [0, 2] := B7 hj 6
   refine DX rfl (CC (AY g86.1) rfl) g86.2
  ·intro e1 F1 hF1 he hj
   have g86 : (e1 86) = .tuple #[tupA (e1 86) 0, .int .i64 0] ∧ Nats F1 (tupA (e1 86) 0) [0, 2] := B7 hj 6
   refine DX rfl (CC (AY g86.1) rfl) rfl
  ·intro e1 F1 hF1 he hj
   have g93 : Nats F1 (e1 93) [0, 2] := B7 hj 7
   refine DX rfl (Bk (AY rfl)) g93
  intro e1 F1 hF1 he hj
  have g94 : (e1 94) = .int .i64 0 := B7 hj 8
  refine DX rfl (Bk (AY g94)) rfl
 intro e67 F64 hF65 he66 hj
 replace hr := hr.mono hF65
 replace hq1 := hq1.mono hF65
 replace hq2 := hq2.mono hF65
 replace hq3 := hq3.mono hF65
 replace hq4 := hq4.mono hF65
 replace hq7 := hq7.mono hF65
 replace g18 := g18.mono hF65
 replace g20 := g20.mono hF65
 replace g21 := g21.mono hF65
 have g23 : Nats F64 (e67 23) [0, 2] := hj 9 (by decide)
 have g24 : (e67 24) = .int .i64 0 := hj 10 (by decide)
 refine Ab <| Ac ?_
 refine J0 9 (.inl rfl) (fun _ _ h => h) (by kernel_rfl) (by kernel_rfl) false rfl ([fun F v => v = .agg #[vs, .int .i64 100, .int .i64 150, .int .i64 14, vb, vl, vn, vd], fun F v => v = .agg #[.int .i64 2, .bool true, .int .i64 30, .int .i64 30], fun F v => Sl F v 4 Ent.enc [ent1 2 30 30], fun F v => v = .tuple #[tupA v 0, .int .i64 8] ∧ Lsts F (tupA v 0) [], fun F v => v = .tuple #[tupA v 0, .int .i64 8] ∧ Lsts F (tupA v 0) [], fun F v => Lsts F v [], fun F v => v = .int .i64 8, fun F v => Lsts F v [], fun F v => v = .int .i64 8]) (⟨fun F F2 v hF h => h, fun F F2 v hF h => h, fun F F2 v hF h => h.mono hF, fun F F2 v hF h => ⟨h.1, h.2.mono hF⟩, fun F F2 v hF h => ⟨h.1, h.2.mono hF⟩, fun F F2 v hF h => h.mono hF, fun F F2 v hF h => h, fun F F2 v hF h => h.mono hF, fun F F2 v hF h => h, trivial⟩) (fun ds => ?_) (fun ds => ?_)
 ·refine ⟨⟨⟨⟨⟨⟨⟨⟨⟨trivial, ?_⟩, ?_⟩, ?_⟩, ?_⟩, ?_⟩, ?_⟩, ?_⟩, ?_⟩, ?_⟩
  ·intro e1 F1 hF1 he hj
   refine DX rfl (AC EG (Bc (Bl he (by kernel_rfl)) <| Bc (Bl he66 (by kernel_rfl)) <| Bc (Bl he62 (by kernel_rfl)) <| Bc (Bl he58 (by kernel_rfl)) <| Cv rfl <| DU rfl <| JH rfl <| GS rfl <| FP) rfl rfl (Bz 0 rfl)) rfl
  ·intro e1 F1 hF1 he hj
   refine ⟨_, _, _, _, _, rfl, ?_⟩
   refine Be (Ay LW Aa AW (EC _ _ _) (fun _ _ h => h)) ⟨_, rfl, Heap.le_refl _, rfl⟩
  ·intro e1 F1 hF1 he hj
   have g97 : (e1 97) = .agg #[.int .i64 2, .bool true, .int .i64 30, .int .i64 30] := B7 hj 1
   refine ⟨_, _, _, _, _, rfl, ?_⟩
   refine BP (B5 (offs := [(0, 4)]) (zl := [.int .i64 0, .bool false, .int .i64 0, .int .i64 0]) Dx FL rfl (.cons (AY g97) rfl .nil) (by intro i p h; rcases i with _ | i <;> simp at h <;> subst h <;> rfl) (.cons rfl rfl (Nat.le_of_ble_eq_true rfl) (.cons (.here) (.cons (.next <| .here) (.cons (.next <| .next <| .here) (.cons (.next <| .next <| .next <| .here) .nil)))) .nil) (by decide) (by decide) fun b hb nb => ⟨b, _, hb, rfl, fun F2 hF2 hz => ⟨F2, rfl, hF2, (SM hz)⟩⟩)
  ·intro e1 F1 hF1 he hj
   replace hr := hr.mono hF1
   have g96 : (e1 96) = .agg #[vs, .int .i64 100, .int .i64 150, .int .i64 14, vb, vl, vn, vd] := B7 hj 0
   have g98 : Sl F1 (e1 98) 4 Ent.enc [ent1 2 30 30] := B7 hj 2
   refine ⟨_, _, _, _, _, rfl, ?_⟩
   refine Bi RB Aa (.cons (AY g96) (.cons (AY rfl) .nil)) (El hr g98) fun v2 F2 hr hF2 => ⟨F2, rfl, hF2, (hr.ans ev_r2)⟩
  ·intro e1 F1 hF1 he hj
   have g99 : (e1 99) = .tuple #[tupA (e1 99) 0, .int .i64 8] ∧ Lsts F1 (tupA (e1 99) 0) [] := B7 hj 3
   refine DX rfl (AI (AY g99.1)) ⟨rfl, g99.2⟩
  ·intro e1 F1 hF1 he hj
   have g95 : (e1 95) = .tuple #[tupA (e1 95) 0, .int .i64 8] ∧ Lsts F1 (tupA (e1 95) 0) [] := B7 hj 4
   refine DX rfl (CC (AY g95.1) rfl) g95.2
  ·intro e1 F1 hF1 he hj
   have g95 : (e1 95) = .tuple #[tupA (e1 95) 0, .int .i64 8] ∧ Lsts F1 (tupA (e1 95) 0) [] := B7 hj 4
   refine DX rfl (CC (AY g95.1) rfl) rfl
  ·intro e1 F1 hF1 he hj
   have g100 : Lsts F1 (e1 100) [] := B7 hj 5
   refine DX rfl (Bk (AY rfl)) g100
  intro e1 F1 hF1 he hj
  have g101 : (e1 101) = .int .i64 8 := B7 hj 6
  refine DX rfl (Bk (AY g101)) rfl
 intro e71 F68 hF69 he70 hj
 have g25 : Lsts F68 (e71 25) [] := hj 7 (by decide)
 have g26 : (e71 26) = .int .i64 8 := hj 8 (by decide)
 refine Ab <| Ac <| Am fun ds => Ag rfl (AI (Bc (Bl he70 (by kernel_rfl)) <| Bc (Bl he66 (by kernel_rfl)) <| Bc (Bl he62 (by kernel_rfl)) <| Bc (Bl he58 (by kernel_rfl)) <| Cv rfl <| DU rfl <| GS rfl <| GD rfl <| FP)) <| Ag rfl (CH Aa Aa) <| Ag rfl (AI Aa) <| Ae rfl rfl Aa (by first | rfl | decide) <| Ag rfl (AI (GS rfl <| GD rfl <| Bc (Bl he70 (by kernel_rfl)) <| Bc (Bl he66 (by kernel_rfl)) <| Bc (Bl he62 (by kernel_rfl)) <| Bc (Bl he58 (by kernel_rfl)) <| Cv rfl <| JH rfl <| KG rfl <| FP)) <| Ae rfl rfl Aa (by first | rfl | decide) <| Ag rfl (CH Aa Aa) <| Ag rfl (Ar Aa (by first | rfl | decide) Aa) <| Ag rfl (AI Aa) <| Ae rfl rfl Aa (by first | rfl | decide) <| Ag rfl (AI (KG rfl <| GS rfl <| GD rfl <| Bc (Bl he70 (by kernel_rfl)) <| Bc (Bl he66 (by kernel_rfl)) <| Bc (Bl he62 (by kernel_rfl)) <| Bc (Bl he58 (by kernel_rfl)) <| Cv rfl <| KG rfl <| FP)) <| Ae rfl rfl Aa (by first | rfl | decide) <| Ag rfl (CH Aa Aa) <| Ag rfl (Ar Aa (by first | rfl | decide) Aa) <| Ag rfl (AI Aa) <| Ae rfl rfl Aa (by first | rfl | decide) <| Ag rfl (AI (JH rfl <| GS rfl <| GD rfl <| Bc (Bl he70 (by kernel_rfl)) <| Bc (Bl he66 (by kernel_rfl)) <| Bc (Bl he62 (by kernel_rfl)) <| Bc (Bl he58 (by kernel_rfl)) <| DU rfl <| KG rfl <| GS rfl <| FP)) ?_
 refine Ae rfl rfl Aa (by first | rfl | decide) <| Ag rfl (CH Aa Aa) <| Ag rfl (Ar Aa (by first | rfl | decide) Aa) <| Ag rfl (AI Aa) <| Ae rfl rfl Aa (by first | rfl | decide) <| Ag rfl (AI (JH rfl <| KG rfl <| GS rfl <| GD rfl <| Bc (Bl he70 (by kernel_rfl)) <| Bc (Bl he66 (by kernel_rfl)) <| Bc (Bl he62 (by kernel_rfl)) <| Bc (Bl he58 (by kernel_rfl)) <| FP)) <| Ae rfl rfl Aa (by first | rfl | decide) <| Ag rfl (CH Aa Aa) <| Ag rfl (Ar Aa (by first | rfl | decide) Aa) <| Ag rfl (AI Aa) <| Ae rfl rfl Aa (by first | rfl | decide) <| Ag rfl (AI (DU rfl <| GS rfl <| GD rfl <| Bc (Bl he70 (by kernel_rfl)) <| Bc (Bl he66 (by kernel_rfl)) <| Bc (Bl he62 (by kernel_rfl)) <| AY g19)) <| Ae rfl rfl Aa (by first | rfl | decide) <| Ag rfl (CH Aa Aa) <| Ag rfl (Ar Aa (by first | rfl | decide) Aa) <| Ag rfl (AI Aa) <| Ae rfl rfl Aa (by first | rfl | decide) <| Ag rfl (AI (DU rfl <| KG rfl <| GS rfl <| GD rfl <| Bc (Bl he70 (by kernel_rfl)) <| Bc (Bl he66 (by kernel_rfl)) <| AY g22)) <| Ae rfl rfl Aa (by first | rfl | decide) <| Ag rfl (CH Aa Aa) <| Ag rfl (Ar Aa (by first | rfl | decide) Aa) <| Ag rfl (AI Aa) <| Ae rfl rfl Aa (by first | rfl | decide) <| Ag rfl (AI (DU rfl <| JH rfl <| GS rfl <| GD rfl <| Bc (Bl he70 (by kernel_rfl)) <| AY g24)) ?_
 refine Ae rfl rfl Aa (by first | rfl | decide) <| Ag rfl (CH Aa Aa) <| Ag rfl (Ar Aa (by first | rfl | decide) Aa) <| Ag rfl (AI Aa) <| Ae rfl rfl Aa (by first | rfl | decide) <| Ag rfl (AI (DU rfl <| JH rfl <| KG rfl <| GS rfl <| GD rfl <| Bc (Bl he70 (by kernel_rfl)) <| Bc (Bl he66 (by kernel_rfl)) <| Bc (Bl he62 (by kernel_rfl)) <| Bc (Bl he58 (by kernel_rfl)) <| JH rfl <| FP)) <| Ae rfl rfl Aa (by first | rfl | decide) <| Ag rfl (CH Aa Aa) <| Ag rfl (Ar Aa (by first | rfl | decide) Aa) <| Ag rfl (AI Aa) <| Ae rfl rfl Aa (by first | rfl | decide) <| Ag rfl (AI (Cv rfl <| GS rfl <| GD rfl <| AY g26)) <| Ae rfl rfl Aa (by first | rfl | decide) <| Ag rfl (CH Aa Aa) <| Ag rfl (Ar Aa (by first | rfl | decide) Aa) <| Ag rfl (AI Aa) <| Ae rfl rfl Aa (by first | rfl | decide) <| Ag rfl (AI (Cv rfl <| KG rfl <| GS rfl <| GD rfl <| Bc (Bl he70 (by kernel_rfl)) <| Bc (Bl he66 (by kernel_rfl)) <| Bc (Bl he62 (by kernel_rfl)) <| Bc (Bl he58 (by kernel_rfl)) <| Cv rfl <| DU rfl <| KG rfl <| FP)) <| Ae rfl rfl Aa (by first | rfl | decide) <| Ag rfl (CH Aa Aa) <| Ag rfl (Ar Aa (by first | rfl | decide) Aa) <| Ag rfl (AI Aa) <| Ae rfl rfl Aa (by first | rfl | decide) <| Ag rfl (AI (Cv rfl <| JH rfl <| GS rfl <| GD rfl <| Bc (Bl he70 (by kernel_rfl)) <| Bc (Bl he66 (by kernel_rfl)) <| Bc (Bl he62 (by kernel_rfl)) <| Bc (Bl he58 (by kernel_rfl)) <| Cv rfl <| JH rfl <| KG rfl <| GD rfl <| FP)) ?_
 refine Ae rfl rfl Aa (by first | rfl | decide) <| AN rfl (Ay Ni Aa AW (Eq _ _) (fun _ _ h => h)) <| Ae rfl rfl Aa (by first | rfl | decide) <| AN rfl (Ay Ni Aa AW (Eq _ _) (fun _ _ h => h)) <| Ae rfl rfl Aa (by first | rfl | decide) <| AN rfl (Ay Ni Aa AW (Eq _ _) (fun _ _ h => h)) <| Ae rfl rfl Aa (by first | rfl | decide) <| A5 rfl <| B5 (offs := [(0, 2), (2, 2), (4, 2)]) (zl := [.int .i64 0, .int .i64 0, .int .i64 0, .int .i64 0, .int .i64 0, .int .i64 0]) BQ FR rfl (.cons Aa rfl (.cons Aa rfl (.cons Aa rfl .nil))) (by intro i p h; rcases i with _ | _ | _ | i <;> simp at h <;> subst h <;> rfl) (.cons rfl rfl (Nat.le_of_ble_eq_true rfl) (.cons (.here) (.cons (.next <| .here) .nil)) (.cons rfl rfl (Nat.le_of_ble_eq_true rfl) (.cons (.next <| .next <| .here) (.cons (.next <| .next <| .next <| .here) .nil)) (.cons rfl rfl (Nat.le_of_ble_eq_true rfl) (.cons (.next <| .next <| .next <| .next <| .here) (.cons (.next <| .next <| .next <| .next <| .next <| .here) .nil)) .nil))) (by decide) (by decide) fun b72 hb72 nb72 => AJ (i := 0) rfl hb72 .here fun F73 hF74 hz75 => ?_
 replace hq1 := hq1.mono (Heap.le_trans hF69 hF74)
 have hsl76 := Sn hz75
 refine Ae rfl rfl Aa (by first | rfl | decide) <| AN rfl (Ay bd_39 Aa AW (Lc hq1 hsl76) (fun _ _ h => h)) <| Ag rfl (Ar Aa (by first | rfl | decide) Aa) <| Ag rfl (AI Aa) <| Ae rfl rfl Aa (by first | rfl | decide) <| Ag rfl (AI (Cv rfl <| DU rfl <| GS rfl <| GD rfl <| Bc (Bl he70 (by kernel_rfl)) <| Bc (Bl he66 (by kernel_rfl)) <| Bc (Bl he62 (by kernel_rfl)) <| Bc (Bl he58 (by kernel_rfl)) <| Cv rfl <| KG rfl <| GD rfl <| FP)) <| Ae rfl rfl Aa (by first | rfl | decide) <| AN rfl (Ay Ni Aa AW (Eq _ _) (fun _ _ h => h)) <| Ae rfl rfl Aa (by first | rfl | decide) <| AN rfl (Ay Ni Aa AW (Eq _ _) (fun _ _ h => h)) <| Ae rfl rfl Aa (by first | rfl | decide) <| AN rfl (Ay Ni Aa AW (Eq _ _) (fun _ _ h => h)) <| Ae rfl rfl Aa (by first | rfl | decide) <| A5 rfl <| B5 (offs := [(0, 2), (2, 2), (4, 2)]) (zl := [.int .i64 0, .int .i64 0, .int .i64 0, .int .i64 0, .int .i64 0, .int .i64 0]) BQ FR rfl (.cons Aa rfl (.cons Aa rfl (.cons Aa rfl .nil))) (by intro i p h; rcases i with _ | _ | _ | i <;> simp at h <;> subst h <;> rfl) (.cons rfl rfl (Nat.le_of_ble_eq_true rfl) (.cons (.here) (.cons (.next <| .here) .nil)) (.cons rfl rfl (Nat.le_of_ble_eq_true rfl) (.cons (.next <| .next <| .here) (.cons (.next <| .next <| .next <| .here) .nil)) (.cons rfl rfl (Nat.le_of_ble_eq_true rfl) (.cons (.next <| .next <| .next <| .next <| .here) (.cons (.next <| .next <| .next <| .next <| .next <| .here) .nil)) .nil))) (by decide) (by decide) fun b77 hb77 nb77 => ?_
 refine AJ (i := 0) rfl hb77 .here fun F78 hF79 hz80 => ?_
 replace hq2 := hq2.mono (Heap.le_trans hF69 (Heap.le_trans hF74 hF79))
 have hsl81 := Sm hz80
 refine Ae rfl rfl Aa (by first | rfl | decide) <| AN rfl (Ay bd_39 Aa AW (Lc hq2 hsl81) (fun _ _ h => h)) <| Ag rfl (Ar Aa (by first | rfl | decide) Aa) <| Ag rfl (AI Aa) <| Ae rfl rfl Aa (by first | rfl | decide) <| Ag rfl (AI (Cv rfl <| DU rfl <| JH rfl <| GS rfl <| GD rfl <| Bc (Bl he70 (by kernel_rfl)) <| Bc (Bl he66 (by kernel_rfl)) <| Bc (Bl he62 (by kernel_rfl)) <| Bc (Bl he58 (by kernel_rfl)) <| DU rfl <| JH rfl <| GD rfl <| FP)) <| Ae rfl rfl Aa (by first | rfl | decide) <| A5 rfl <| AM A9 B2 rfl (.cons Aa (.cons Aa (.cons Aa (.cons Aa .nil)))) rfl rfl (by decide) (by simp [Value.oneCell']) fun b82 hb82 nb82 => AJ (i := 0) rfl hb82 .here fun F83 hF84 hz85 => ?_
 replace hq3 := hq3.mono (Heap.le_trans hF69 (Heap.le_trans hF74 (Heap.le_trans hF79 hF84)))
 have hsl86 := SG hz85
 refine Ae rfl rfl Aa (by first | rfl | decide) <| AN rfl (Ay Dj Aa AW (BH hq3 hsl86) (fun _ _ h => h)) <| Ag rfl (Ar Aa (by first | rfl | decide) Aa) <| Ag rfl (AI Aa) <| Ae rfl rfl Aa (by first | rfl | decide) <| Ag rfl (AI (Cv rfl <| Cv rfl <| Bc (Bl he70 (by kernel_rfl)) <| Bc (Bl he66 (by kernel_rfl)) <| Bc (Bl he62 (by kernel_rfl)) <| Bc (Bl he58 (by kernel_rfl)) <| DU rfl <| JH rfl <| FP)) <| Ae rfl rfl Aa (by first | rfl | decide) <| A5 rfl <| AM A9 B2 rfl (.cons Aa .nil) rfl rfl (by decide) (by simp [Value.oneCell']) fun b87 hb87 nb87 => AJ (i := 0) rfl hb87 .here fun F88 hF89 hz90 => ?_
 replace hq4 := hq4.mono (Heap.le_trans hF69 (Heap.le_trans hF74 (Heap.le_trans hF79 (Heap.le_trans hF84 hF89))))
 have hsl91 := Bh hz90
 refine Ae rfl rfl Aa (by first | rfl | decide) <| AN rfl (Ay Dj Aa AW (BH hq4 hsl91) (fun _ _ h => h)) <| Ag rfl (Ar Aa (by first | rfl | decide) Aa) <| Ag rfl (AI Aa) <| Ae rfl rfl Aa (by first | rfl | decide) <| Ag rfl (AI (Cv rfl <| Cv rfl <| KG rfl <| GD rfl <| Bc (Bl he70 (by kernel_rfl)) <| Bc (Bl he66 (by kernel_rfl)) <| Bc (Bl he62 (by kernel_rfl)) <| Bc (Bl he58 (by kernel_rfl)) <| DU rfl <| KG rfl <| GS rfl <| GD rfl <| FP)) <| Ae rfl rfl Aa (by first | rfl | decide) <| Ag rfl (CH Aa Aa) <| Ag rfl (Ar Aa (by first | rfl | decide) Aa) <| Ag rfl (AI Aa) <| Ae rfl rfl Aa (by first | rfl | decide) <| Ag rfl (AI (Cv rfl <| Cv rfl <| JH rfl <| GD rfl <| Bc (Bl he70 (by kernel_rfl)) <| Bc (Bl he66 (by kernel_rfl)) <| Bc (Bl he62 (by kernel_rfl)) <| Bc (Bl he58 (by kernel_rfl)) <| GD rfl <| FP)) <| Ae rfl rfl Aa (by first | rfl | decide) <| A5 rfl <| AM A9 B2 rfl (.cons Aa (.cons Aa (.cons Aa .nil))) rfl rfl (by decide) (by simp [Value.oneCell']) fun b92 hb92 nb92 => AJ (i := 0) rfl hb92 .here fun F93 hF94 hz95 => ?_
 replace hq7 := hq7.mono (Heap.le_trans hF69 (Heap.le_trans hF74 (Heap.le_trans hF79 (Heap.le_trans hF84 (Heap.le_trans hF89 hF94)))))
 have hsl96 := Es hz95
 refine Ae rfl rfl Aa (by first | rfl | decide) <| AN rfl (Ay Dj Aa AW (BH hq7 hsl96) (fun _ _ h => h)) <| Ag rfl (Ar Aa (by first | rfl | decide) Aa) <| Ag rfl (AI Aa) <| Ae rfl rfl Aa (by first | rfl | decide) <| Ag rfl (AI (Cv rfl <| Cv rfl <| JH rfl <| KG rfl <| GS rfl <| Bc (Bl he70 (by kernel_rfl)) <| Bc (Bl he66 (by kernel_rfl)) <| Bc (Bl he62 (by kernel_rfl)) <| AY rfl)) <| Ae rfl rfl Aa (by first | rfl | decide) <| A5 rfl <| AM A9 B2 rfl (.cons Aa (.cons Aa .nil)) rfl rfl (by decide) (by simp [Value.oneCell']) fun b97 hb97 nb97 => AJ (i := 0) rfl hb97 .here fun F98 hF99 hz100 => ?_
 have hsl101 := Uy hz100
 refine Ae rfl rfl Aa (by first | rfl | decide) <| A5 rfl <| AM A9 B2 rfl (.cons Aa (.cons Aa (.cons Aa .nil))) rfl rfl (by decide) (by simp [Value.oneCell']) fun b102 hb102 nb102 => AJ (i := 0) rfl hb102 .here fun F103 hF104 hz105 => ?_
 have hsl106 := S0 hz105
 refine Ae rfl rfl Aa (by first | rfl | decide) <| A5 rfl <| AM A9 B2 rfl (.cons Aa (.cons Aa (.cons Aa .nil))) rfl rfl (by decide) (by simp [Value.oneCell']) fun b107 hb107 nb107 => AJ (i := 0) rfl hb107 .here fun F108 hF109 hz110 => ?_
 have hsl111 := Sz hz110
 refine Ae rfl rfl Aa (by first | rfl | decide) <| A5 rfl <| AM Dh JX rfl (.cons Aa (.cons Aa (.cons Aa .nil))) rfl rfl (by decide) (by simp [Value.oneCell']) fun b112 hb112 nb112 => AJ (i := 0) rfl hb112 .here fun F113 hF114 hz115 => ?_
 replace g18 := g18.mono (Heap.le_trans hF69 (Heap.le_trans hF74 (Heap.le_trans hF79 (Heap.le_trans hF84 (Heap.le_trans hF89 (Heap.le_trans hF94 (Heap.le_trans hF99 (Heap.le_trans hF104 (Heap.le_trans hF109 hF114)))))))))
 replace hsl101 := hsl101.mono (Heap.le_trans hF104 (Heap.le_trans hF109 hF114))
 replace hsl106 := hsl106.mono (Heap.le_trans hF109 hF114)
 replace hsl111 := hsl111.mono hF114
 have hsl116 := RK hz115
 refine Ae rfl rfl Aa (by first | rfl | decide) <| AN rfl (Ay bd_41 Aa AW (VY g18 (lsts3 hsl116 hsl101 hsl106 hsl111)) (fun _ _ h => h)) <| Ag rfl (Ar Aa (by first | rfl | decide) Aa) <| Ag rfl (AI Aa) <| Ae rfl rfl Aa (by first | rfl | decide) <| Ag rfl (AI (Cv rfl <| Cv rfl <| DU rfl <| KG rfl <| GS rfl <| Bc (Bl he70 (by kernel_rfl)) <| Bc (Bl he66 (by kernel_rfl)) <| AY rfl)) <| Ae rfl rfl Aa (by first | rfl | decide) <| A5 rfl <| AM A9 B2 rfl (.cons Aa (.cons Aa .nil)) rfl rfl (by decide) (by simp [Value.oneCell']) fun b117 hb117 nb117 => AJ (i := 0) rfl hb117 .here fun F118 hF119 hz120 => ?_
 replace g20 := g20.mono (Heap.le_trans hF69 (Heap.le_trans hF74 (Heap.le_trans hF79 (Heap.le_trans hF84 (Heap.le_trans hF89 (Heap.le_trans hF94 (Heap.le_trans hF99 (Heap.le_trans hF104 (Heap.le_trans hF109 (Heap.le_trans hF114 hF119))))))))))
 have hsl121 := OI hz120
 refine Ae rfl rfl Aa (by first | rfl | decide) <| AN rfl (Ay Dj Aa AW (DS g20 hsl121) (fun _ _ h => h)) <| Ag rfl (Ar Aa (by first | rfl | decide) Aa) <| Ag rfl (AI Aa) <| Ae rfl rfl Aa (by first | rfl | decide) <| Ag rfl (AI (Cv rfl <| Cv rfl <| DU rfl <| JH rfl <| GS rfl <| GD rfl <| Bc (Bl he70 (by kernel_rfl)) <| Bc (Bl he66 (by kernel_rfl)) <| AY rfl)) <| Ae rfl rfl Aa (by first | rfl | decide) <| A5 rfl <| AM A9 B2 rfl (.cons Aa (.cons Aa (.cons Aa (.cons Aa .nil)))) rfl rfl (by decide) (by simp [Value.oneCell']) fun b122 hb122 nb122 => AJ (i := 0) rfl hb122 .here fun F123 hF124 hz125 => ?_
 replace g21 := g21.mono (Heap.le_trans hF69 (Heap.le_trans hF74 (Heap.le_trans hF79 (Heap.le_trans hF84 (Heap.le_trans hF89 (Heap.le_trans hF94 (Heap.le_trans hF99 (Heap.le_trans hF104 (Heap.le_trans hF109 (Heap.le_trans hF114 (Heap.le_trans hF119 hF124)))))))))))
 have hsl126 := PT hz125
 refine Ae rfl rfl Aa (by first | rfl | decide) <| AN rfl (Ay Dj Aa AW (DS g21 hsl126) (fun _ _ h => h)) <| Ag rfl (Ar Aa (by first | rfl | decide) Aa) <| Ag rfl (AI Aa) <| Ae rfl rfl Aa (by first | rfl | decide) <| Ag rfl (AI (Cv rfl <| Cv rfl <| Cv rfl <| Bc (Bl he70 (by kernel_rfl)) <| AY rfl)) <| Ae rfl rfl Aa (by first | rfl | decide) <| A5 rfl <| AM A9 B2 rfl (.cons Aa (.cons Aa .nil)) rfl rfl (by decide) (by simp [Value.oneCell']) fun b127 hb127 nb127 => AJ (i := 0) rfl hb127 .here fun F128 hF129 hz130 => ?_
 have hU1403 := Heap.le_trans hF69 (Heap.le_trans hF74 (Heap.le_trans hF79 (Heap.le_trans hF84 (Heap.le_trans hF89 (Heap.le_trans hF94 (Heap.le_trans hF99 (Heap.le_trans hF104 (Heap.le_trans hF109 (Heap.le_trans hF114 (Heap.le_trans hF119 (Heap.le_trans hF124 hF129)))))))))))
 have hU1404 := Heap.le_trans hF79 (Heap.le_trans hF84 (Heap.le_trans hF89 (Heap.le_trans hF94 (Heap.le_trans hF99 (Heap.le_trans hF104 (Heap.le_trans hF109 (Heap.le_trans hF114 (Heap.le_trans hF119 (Heap.le_trans hF124 hF129)))))))))
 have hU1406 := Heap.le_trans hF84 (Heap.le_trans hF89 (Heap.le_trans hF94 (Heap.le_trans hF99 (Heap.le_trans hF104 (Heap.le_trans hF109 (Heap.le_trans hF114 (Heap.le_trans hF119 (Heap.le_trans hF124 hF129))))))))
 have hU1409 := Heap.le_trans hF89 (Heap.le_trans hF94 (Heap.le_trans hF99 (Heap.le_trans hF104 (Heap.le_trans hF109 (Heap.le_trans hF114 (Heap.le_trans hF119 (Heap.le_trans hF124 hF129)))))))
 have hU1410 := Heap.le_trans hF94 (Heap.le_trans hF99 (Heap.le_trans hF104 (Heap.le_trans hF109 (Heap.le_trans hF114 (Heap.le_trans hF119 (Heap.le_trans hF124 hF129))))))
 have hU1416 := Heap.le_trans hF99 (Heap.le_trans hF104 (Heap.le_trans hF109 (Heap.le_trans hF114 (Heap.le_trans hF119 (Heap.le_trans hF124 hF129)))))
 have hU1417 := Heap.le_trans hF119 (Heap.le_trans hF124 hF129)
 have hU1418 := Heap.le_trans hF124 hF129
 replace g23 := g23.mono hU1403
 replace g25 := g25.mono (Heap.le_trans hF74 (Heap.le_trans hF79 (Heap.le_trans hF84 (Heap.le_trans hF89 (Heap.le_trans hF94 (Heap.le_trans hF99 (Heap.le_trans hF104 (Heap.le_trans hF109 (Heap.le_trans hF114 (Heap.le_trans hF119 (Heap.le_trans hF124 hF129)))))))))))
 have hsl131 := OI hz130
 refine Ae rfl rfl Aa (by first | rfl | decide) <| AN rfl (Ay Dj Aa AW (DS g23 hsl131) (fun _ _ h => h)) <| Ag rfl (Ar Aa (by first | rfl | decide) Aa) <| Ag rfl (Bk Aa) <| Ao <| Ab <| At <| Ap rfl Bd ?_
 show _ = _
 first | rfl | decide
end
section
def ringL (bits n : Nat) : List Nat := selTo bits.testBit n
def ringN (s : Sale) (bits : Nat) : List Nat := if (ringL bits s.bidders.length).length = 1 then [] else ringL bits s.bidders.length
theorem S1 {p : Nat → Bool} {k i : Nat} : i ∈ selTo p k ↔ i < k ∧ p i = true := by unfold selTo; simp
theorem RW {p : Nat → Bool} {k : Nat} : Asc (selTo p k) := List.Pairwise.sublist List.filter_sublist List.pairwise_lt_range
theorem Sf {s : Sale} {bits : Nat} : Asc (ringN s bits) := by
 unfold ringN; split
 · exact .nil
 exact RW
theorem TX {s : Sale} {bits : Nat} : ∀ i ∈ ringN s bits, i < s.bidders.length := by
 intro i hi; unfold ringN at hi; split at hi
 · cases hi
 exact (S1.1 hi).1
theorem Se {s : Sale} {bits : Nat} : (ringN s bits).length ≠ 1 := by
 unfold ringN; split
 · simp
 assumption
theorem VT {l : List Nat} (h : Asc l) : notAsc (castL l) = false := by
 unfold notAsc
 rw [List.any_eq_false]
 intro i hi
 have hi := List.mem_range.1 hi
 have hl : i < l.length := by simpa [castL] using hi
 simp only [decide_eq_true_eq, not_and, Int.not_le]
 intro h0
 have := List.pairwise_iff_getElem.1 h (i - 1) i (by omega) hl (by omega)
 simp [castL, hl, show i - 1 < l.length by omega]
 exact this
theorem TW {s : Sale} {l : List Nat} (h1 : Asc l) (h2 : ∀ b ∈ l, b < s.bidders.length) (h3 : l.length ≠ 1) : ringErr s (castL l) = 0 := by
 unfold ringErr
 rw [if_neg, if_neg (by rw [VT h1]; simp), if_neg (by simpa [castL] using h3)]
 simp only [List.any_eq_true, not_exists, not_and]
 intro z hz
 obtain ⟨b, hb, rfl⟩ := List.mem_map.1 hz
 have := h2 b hb
 unfold inB
 simp; omega
theorem Pe {s : Sale} (h0 : (checkS s).2.2 = 0) {bits : Nat} : enterErr s (castL (ringN s bits)) = 0 := by
 unfold enterErr; rw [if_neg (fun k => k h0)]; exact TW Sf TX Se
end
section
set_option maxRecDepth 100000
open Go.RowKit
theorem Rs {m k : Nat} : decide ((((m / 2 ^ k : Nat) : Int) % 2) = 1) = m.testBit k := by
 rw [Nat.testBit_eq_decide_div_mod_eq]
 by_cases h : m / 2 ^ k % 2 = 1
 · rw [dT h]; exact dT (by omega)
 rw [dF h]; exact dF (by omega)
theorem ring_ok {F : Heap} {vs vb vl vn vd : Value} {s : Sale} (hr : SaleR F vs vb vl vn vd s) (hv : ValidS s) {bits : Nat} : Ok Tryz.prog 9 [.agg #[vs, .int .i64 s.premium, .int .i64 s.fee, .int .i64 s.days, vb, vl, vn, vd], .int .u8 (bits : Int)].toArray F fun u F' => Nats F' u (ringN s bits) := by
 refine Ok.intro Tryz.func9 rfl Tryz.ntmps9 rfl fun w0 => ?_
 have hL1 := hr.bidders.plain.lt
 have hnb := hv.nb
 refine Ac <| Am fun ds => A5 rfl <| Bg Aa rfl fun b1 hb1 nb1 => Aw (Af 1) <| AD (Af 1) <| Ac <| AD (Af 1) <| Aq ?_
 refine AL [5, 6, 7, 8, 9, 10, 11, 12, 13, 14, 15, 16, 17, 18, 19, 20, 21, 22] (fun m e σ => ∃ k : Nat, m + k = s.bidders.length ∧ Fct e 6 (.int .i64 (k : Int)) ∧ ∃ v R, Fct e 5 v ∧ Own 3 1 v (ringL bits k).length ((ringL bits k).flatMap natE) R ∧ σ = ⟨F, (b1, bx 33 [vs, .int .i64 s.premium, .int .i64 s.fee, .int .i64 s.days, vb, vl, vn, vd]) :: R⟩) (s.bidders.length) ?_ ?_
 · exact ⟨0, by omega, AX, _, _, AX, Own.nil, rfl⟩
 rintro m e _ ⟨k, hm, hs6, v5, R2, hs5, ho, rfl⟩; have hbl : (ringL bits k).length ≤ k := Ei
 by_cases hlt : k < s.bidders.length
 ·refine Ac <| Az (Af 3) fun ds => Ag rfl (A4 BB Aa hr.bidders.plain) <| Aw (Af 1) <| Ai Aa (by first | rfl | exact dT (by omega)) ?_
  by_cases hb : bits.testBit k = true
  ·refine Al <| Ab <| Ac <| Aq <| Az (Af 2) fun ds => Ag rfl (FM Aa Aa (k := k) rfl (by show k < 8; omega) Dz) <| Ag rfl (HV Aa Aa (Int.natCast_nonneg _) (by decide)) <| Aw (Af 1) <| Ai Aa (by rw [Rs]; exact hb) <| Am fun ds => Aj (Af 2) <| A5 rfl <| AM A9 B2 rfl (.cons Aa .nil) rfl rfl (by decide) (by simp [Value.oneCell']) fun b3 hb3 nb3 => A5 rfl <| Bp A9 Di Aa ho Aa (B1 (s := 1) 0 rfl rfl (by simp [Value.oneCell'])) (by omega) (by omega) (.s <| .s <| .z) .last fun v4 R5 ho6 => ?_
   have ho2 := ho6.snoc (x := k) rfl rfl
   refine Aj (Af 1) <| Ao <| A0 <| Ab <| Bn (fun _ _ h => h.drop (kD <| kK <| .refl _)) <| Am fun ds => Aj (Af 1) <| Ag rfl (AG Aa Aa rfl (by omega) (by omega)) <| Aj (Af 1) <| Ao ?_
   refine Ab ⟨_, m - 1, Off.eq (B3 rfl <| BM rfl <| A2), by omega, ?_⟩
   refine ⟨k + 1, by omega, AX, _, _, AX, by rw [ringL, C6, if_pos hb]; exact ho2, rfl⟩
  replace hb : bits.testBit k = false := by simpa using hb
  refine Al <| Ab <| Ac <| Aq <| Az (Af 2) fun ds => Ag rfl (FM Aa Aa (k := k) rfl (by show k < 8; omega) Dz) <| Ag rfl (HV Aa Aa (Int.natCast_nonneg _) (by decide)) <| Aw (Af 1) <| Ad Aa (by rw [Rs]; exact hb) <| Al <| A0 <| Ab <| Am fun ds => Aj (Af 1) <| Ag rfl (AG Aa Aa rfl (by omega) (by omega)) <| Aj (Af 1) <| Ao ?_
  refine Ab ⟨_, m - 1, Off.eq (BR rfl <| Ca rfl <| BX rfl <| A2), by omega, ?_⟩
  refine ⟨k + 1, by omega, AX, _, _, AX, by rw [ringL, C6, if_neg (by rw [hb]; simp)]; exact ho, rfl⟩
 refine Ac <| Az (Af 3) fun ds => Ag rfl (A4 BB Aa hr.bidders.plain) <| Aw (Af 1) <| Ad Aa (by first | rfl | exact dF (by omega)) ?_
 obtain rfl : k = s.bidders.length := by omega
 refine BJ (σ := ⟨_, _⟩) (by rfl) ho (.s <| .z) .last fun F7 hF8 hz9 => ?_
 have hn2 := ho.sl (fun _ => rfl) hz9 (by have := Ei (p := bits.testBit) (k := s.bidders.length); unfold ringL; omega)
 by_cases h1 : (ringL bits s.bidders.length).length = 1
 ·refine AH ?_
  refine A8 <| A8 <| AB <| Ab <| Ac <| Az (Af 1) fun ds => Ag rfl (A4 A9 Aa hn2.plain) <| Aw (Af 1) <| Ai Aa (dT (by omega)) <| AD (Af 1) <| At <| Ax <| Ap rfl Bd ?_
  unfold ringN; rw [if_pos h1]
  exact Sl.nil
 refine AH ?_
 refine A8 <| A8 <| AB <| Ab <| Ac <| Az (Af 1) fun ds => Ag rfl (A4 A9 Aa hn2.plain) <| Aw (Af 1) <| Ad Aa (dF (by omega)) <| Al <| Ab <| AD (Af 2) <| At <| Ap rfl Bd ?_
 unfold ringN; rw [if_neg h1]
 exact hn2
end
section
open Go.RowKit
section
variable {P : Program} {n : Nat} {B : Base} {e : Env} {σ : St} {d : Option Nat} {ty : TypeId} {pos : String} {af : Array Edge} {gd : Option (Nat × Bool)}
end
theorem Gc {α : Type} {F : Heap} {H R : List (Nat × Obj)} {E s k : Nat} {v : Value} {enc : α → List Value} {xs : List α} (hs : ∀ x, (enc x).length = s) (h : Own E s v k (xs.flatMap enc) R) (hm : ∀ p ∈ R, p ∈ H) {i : Nat} (hi : i < xs.length) : ∀ j u, (enc xs[i])[j]? = some u → Cell ⟨F, H⟩ (addc (addc (base v) (i * s)) j) u := fun j u hu => by
 rw [DM]
 have hj : j < s := by have := (List.getElem?_eq_some_iff.1 hu).1; rw [hs] at this; exact this
 exact CI h hm (Jj hs xs i hi hu)
end
end Go.Proofs.YtkjfmibiinfhfacGreat
