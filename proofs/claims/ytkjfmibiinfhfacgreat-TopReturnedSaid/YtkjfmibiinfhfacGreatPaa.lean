/-
  A part of a proof: TopReturned returns true of any copy, any sale, any lot and any ring, and leaves what it is handed as it was. No conditions.
-/
import Derived.WalkKit
import Derived.Deep.Quiet
import Derived.Scope
import Derived.OrdersIn
import Derived.TacticsIn
import Derived.RangeFuncRecord
import Derived.RangeFuncNested
import Derived.KernelRfl
import Derived.Lib.TrimU
import Derived.Laws.StructEq
import Derived.OrdersHeld
import Derived.ProofKit
import Derived.SizedLaws
import Derived.Carry
import Derived.OpenVars
import Derived.WideShapes
import Derived.Deep.Slices
namespace Go.Proofs.YtkjfmibiinfhfacGreat
section
theorem dF {p : Prop} [Decidable p] (h : ¬p) : decide p = false := decide_eq_false h
theorem dT {p : Prop} [Decidable p] (h : p) : decide p = true := decide_eq_true h
theorem kK {α : Type _} {a : α} {l m : List α} (h : l.Sublist m) : (a :: l).Sublist (a :: m) := .cons_cons a h
theorem kD {α : Type _} {a : α} {l m : List α} (h : l.Sublist m) : l.Sublist (a :: m) := .cons a h
open Go.RowKit
abbrev Env := Nat → Value
abbrev Heap := Nat → Option Obj
def upd (e : Env) (d : Nat) (v : Value) : Env := fun t => if t = d then v else e t
def over (M : List Nat) (s e : Env) : Env := fun t => if t ∈ M then s t else e t
def ev (e : Env) : Operand → Value
 | .tmp t => e t
 | .const v => v
 | .global g => .pointer (some ⟨g, 0, none⟩)
 | .func f => .func (.func f) #[] #[]
structure Base where
 w0 : World
 M : List Nat
 F0 : Go.Proofs.YtkjfmibiinfhfacGreat.Heap
 ds : List Nat
 ro : Option Nat
def Base.at (B : Base) (ds : List Nat) : Base := { B with ds := ds }
def mark (D : Nat) : Deferred := { target := .collected D, args := #[] }
structure Fits (n : Nat) (B : Base) (a : Act) (e : Env) : Prop where
 size : a.tmps.size = n
 defers : a.defers = B.ds.map mark
 get : ∀ t, a.tmps.getD t undef = e t
theorem Fits.ev {n : Nat} {B : Base} {a : Act} {e : Env} (h : Fits n B a e) : a.eval = ev e := by
 funext x
 cases x with
 | tmp t => exact h.get t
 | _ => rfl
theorem Fits.put {n : Nat} {B : Base} {a : Act} {e : Env} (h : Fits n B a e) {d : Nat} (hd : d < n) (v : Value) : Fits n B (a.put (some d) v) (upd e d v) := by
 refine ⟨by simp [Act.put, h.size], h.defers, fun t => ?_⟩
 unfold upd
 by_cases ht : t = d
 · subst ht
   have : t < a.tmps.size := by rw [h.size]; exact hd
   simp [Act.put, this]
 rw [if_neg ht, ← h.get t]
 simp [Act.put, Array.getElem?_setIfInBounds_ne (Ne.symm ht)]
structure St where
 F : Heap
 H : List (Nat × Obj)
def Heap.le (F F' : Heap) : Prop := ∀ b o, F b = some o → F' b = some o
theorem Heap.le_refl (F : Heap) : F.le F := fun _ _ h => h
theorem Heap.le_trans {F G K : Heap} (h : F.le G) (k : G.le K) : F.le K := fun b o e => k b o (h b o e)
structure Holds (B : Base) (σ : St) (w : World) : Prop where
 os : w.os = B.w0.os
 tape : w.tape = B.w0.tape
 output : w.output = B.w0.output
 size : B.w0.heap.size ≤ w.heap.size
 old : ∀ b, b < B.w0.heap.size → b ∉ B.M → w.heap[b]? = B.w0.heap[b]?
 sub : ∀ b o, σ.F b = some o → w.heap[b]? = some o
 own : ∀ p, p ∈ σ.H → w.heap[p.1]? = some p.2 ∧ σ.F p.1 = none ∧ (B.w0.heap.size ≤ p.1 ∨ p.1 ∈ B.M)
 nodup : (σ.H.map (·.1)).Nodup
 ext : ∀ b, b < B.w0.heap.size → σ.F b = B.F0 b
 le : B.F0.le σ.F
 marks : ∀ D, D ∈ B.ds → w.heap[D]? = some (.deferred (some [])) ∧ σ.F D = none ∧ B.w0.heap.size ≤ D ∧ D ∉ σ.H.map (·.1)
 dnodup : B.ds.Nodup
theorem Holds.drew {B : Base} {σ : St} {w : World} (h : Holds B σ w) : Holds B σ { w with drawn := w.drawn + 1 } :=
 ⟨h.os, h.tape, h.output, h.size, h.old, h.sub, h.own, h.nodup, h.ext, h.le, h.marks, h.dnodup⟩
section
variable {P : Program} {n : Nat} {B : Base}
def fence (ro : Option Nat) : Fence := { fn := fun _ => True, depth := none, alive := false, round := ro }
def lift (n : Nat) (B : Base) (Q : Exit → Env → St → Prop) : Exit → Act → World → Prop :=
 fun x a w => ∃ ds e σ, Fits n (B.at ds) a e ∧ Holds (B.at ds) σ w ∧ Q x e σ
def WC (P : Program) (n : Nat) (B : Base) (c : Code) (Q : Exit → Env → St → Prop) (e : Env) (σ : St) : Prop :=
 ∀ ds a w, Fits n (B.at ds) a e → Holds (B.at ds) σ w → c.wpIn (fence B.ro) 0 P (lift n B Q) a w
def WL (P : Program) (n : Nat) (B : Base) (ops : Array Oper) (Q : Exit → Env → St → Prop) (l : List Oper) (e : Env) (σ : St) : Prop :=
 ∀ a w, Fits n B a e → Holds B σ w → wpList P ops (lift n B Q) l a w
def thenE (K : Env → St → Prop) (Q : Exit → Env → St → Prop) : Exit → Env → St → Prop
 | .normal, e, σ => K e σ
 | x, e, σ => Q x e σ
theorem Ac {c d : Code} {Q : Exit → Env → St → Prop} {e : Env} {σ : St} (h : WC P n B c (thenE (WC P n B d Q) Q) e σ) : WC P n B (.seq c d) Q e σ := by
 intro ds a w ha hw
 refine wpIn_seq (wpIn_mono (h ds a w ha hw) fun x a' w' hq => ?_)
 obtain ⟨ds', e', σ', h1, h2, h3⟩ := hq
 cases x with
 | normal => exact h3 ds' a' w' h1 h2
 | _ => exact ⟨ds', e', σ', h1, h2, h3⟩
theorem Al {Q : Exit → Env → St → Prop} {e : Env} {σ : St} (h : Q .normal e σ) : WC P n B .skip Q e σ := fun ds _ _ ha hw => wpIn_skip ⟨ds, e, σ, ha, hw, h⟩
theorem At {Q : Exit → Env → St → Prop} {e : Env} {σ : St} (h : Q .ret e σ) : WC P n B .ret Q e σ := fun ds _ _ ha hw => wpIn_ret ⟨ds, e, σ, ha, hw, h⟩
theorem AH {id : Nat} {Q : Exit → Env → St → Prop} {e : Env} {σ : St} (h : Q (.exit id) e σ) : WC P n B (.exit id) Q e σ := fun ds _ _ ha hw => wpIn_exit ⟨ds, e, σ, ha, hw, h⟩
theorem Mc {l : Nat} {Q : Exit → Env → St → Prop} {e : Env} {σ : St} (h : Q .normal e σ) : WC P n B (.label l) Q e σ := fun ds _ _ ha hw => wpIn_label ⟨ds, e, σ, ha, hw, h⟩
def blockE (id : Nat) (Q : Exit → Env → St → Prop) : Exit → Env → St → Prop
 | .exit id', e, σ => if id' = id then Q .normal e σ else Q (.exit id') e σ
 | x, e, σ => Q x e σ
theorem Aq {id : Nat} {c : Code} {Q : Exit → Env → St → Prop} {e : Env} {σ : St} (h : WC P n B c (blockE id Q) e σ) : WC P n B (.block id c) Q e σ := by
 intro ds a w ha hw
 refine wpIn_block (wpIn_mono (h ds a w ha hw) fun x a' w' hq => ?_)
 obtain ⟨ds', e', σ', h1, h2, h3⟩ := hq
 cases x with
 | exit id' =>
   simp only [Exit.inBlock, blockE] at h3 ⊢
   split at h3
   · rename_i hi; rw [if_pos hi]; exact ⟨ds', e', σ', h1, h2, h3⟩
   rename_i hi; rw [if_neg hi]; exact ⟨ds', e', σ', h1, h2, h3⟩
 | _ => exact ⟨ds', e', σ', h1, h2, h3⟩
theorem P7 {F : Fence} {m : Nat} {c : Code} {Q : Exit → Act → World → Prop} {a : Act} {w : World} (h : c.wpIn F m P (Exit.noGoto Q) a w) : (Code.scope c).wpIn F m P Q a w := by
 intro b k cs hro hb hr
 have h0 : (lone (b.atR a (.code (.scope c) :: k)) cs w).fenced P F := fenced_calm hb hr rfl
 have s1 : step P (lone (b.atR a (.code (.scope c) :: k)) cs w) = .next (lone (b.atR a (.code c :: .inScope c :: k)) cs w) := step_lone_go (by simp [stepG, stepG.exec, Frame.atR])
 have s2 : ∀ (a : Act) (w : World), step P (lone (b.atR a (.inScope c :: k)) cs w) = .next (lone (b.atR a k) cs w) := fun a w => step_lone_go (by simp [stepG, stepG.exec, Frame.atR])
 obtain ⟨e, a₁, w₁, hq, harr⟩ := h b (.inScope c :: k) cs hro hb hr
 cases e with
 | normal => exact ⟨.normal, a₁, w₁, hq, .head h0 s1 (StepsIn.trans harr (.one (fenced_calm hb hr rfl) (s2 _ _)))⟩
 | exit id =>
   have hx : exitTo id (.inScope c :: k) = exitTo id k := by simp [exitTo]
   exact ⟨_, a₁, w₁, hq, fun k' hk => .head h0 s1 (harr.1 k' (by rw [hx]; exact hk)), fun hr' hk => let ⟨k₁, h1, h2⟩ := harr.2 hr' (by rw [hx]; exact hk); ⟨k₁, h1, .head h0 s1 h2⟩⟩
 | goto l => exact hq.elim
 | ret => exact ⟨_, a₁, w₁, hq, .of_steps (.one h0 s1) harr⟩
 | panic ch => exact ⟨_, a₁, w₁, hq, .of_steps (.one h0 s1) harr⟩
 | outgrown => exact ⟨_, a₁, w₁, hq, .of_steps (.one h0 s1) harr⟩
def scopeE (Q : Exit → Env → St → Prop) : Exit → Env → St → Prop
 | .goto _, _, _ => False
 | x, e, σ => Q x e σ
theorem Ma {c : Code} {Q : Exit → Env → St → Prop} {e : Env} {σ : St} (h : WC P n B c (scopeE Q) e σ) : WC P n B (.scope c) Q e σ := by
 intro ds a w ha hw
 refine P7 (wpIn_mono (h ds a w ha hw) fun x a' w' hq => ?_)
 obtain ⟨ds', e', σ', h1, h2, h3⟩ := hq
 cases x with
 | goto l => exact h3.elim
 | _ => exact ⟨ds', e', σ', h1, h2, h3⟩
theorem AB {id : Nat} {Q : Exit → Env → St → Prop} {e : Env} {σ : St} (h : Q .normal e σ) : blockE id Q (.exit id) e σ := by
 simpa [blockE] using h
theorem JM {id id' : Nat} {Q : Exit → Env → St → Prop} {e : Env} {σ : St} (hne : Nat.beq id' id = false) (h : Q (.exit id') e σ) : blockE id Q (.exit id') e σ := by
 have : ¬ id' = id := fun e => by subst e; simp at hne
 simpa [blockE, this] using h
theorem Ai {c : Operand} {x y : Code} {Q : Exit → Env → St → Prop} {e : Env} {σ : St} {t : Bool} (hc : ev e c = .bool t) (ht : t = true) (h : WC P n B x Q e σ) : WC P n B (.cond c x y) Q e σ := by
 intro ds a w ha hw
 subst ht
 exact wpIn_cond_true (by rw [ha.ev]; exact hc) (h ds a w ha hw)
theorem Ad {c : Operand} {x y : Code} {Q : Exit → Env → St → Prop} {e : Env} {σ : St} {t : Bool} (hc : ev e c = .bool t) (ht : t = false) (h : WC P n B y Q e σ) : WC P n B (.cond c x y) Q e σ := by
 intro ds a w ha hw
 subst ht
 exact wpIn_cond_false (by rw [ha.ev]; exact hc) (h ds a w ha hw)
theorem D3 {p : Nat → Prop} (h : ∃ m, p m) : ∃ m, p m ∧ ∀ k, p k → m ≤ k := by
 obtain ⟨m, hm⟩ := h
 induction m using Nat.strongRecOn with
 | _ m ih =>
   by_cases hk : ∃ k, k < m ∧ p k
   · obtain ⟨k, hlt, hp⟩ := hk
     exact ih k hlt hp
   exact ⟨m, hm, fun k hp => Nat.le_of_not_lt fun hlt => hk ⟨k, hlt, hp⟩⟩
open Classical in
noncomputable def least (p : Nat → Prop) : Nat := if h : ∃ m, p m then Classical.choose (D3 h) else 0
theorem Lw {p : Nat → Prop} (h : ∃ m, p m) : p (least p) := by
 unfold least; rw [dif_pos h]; exact (Classical.choose_spec (D3 h)).1
theorem ON {p : Nat → Prop} {k : Nat} (h : p k) : least p ≤ k := by
 unfold least; rw [dif_pos ⟨k, h⟩]; exact (Classical.choose_spec (D3 ⟨k, h⟩)).2 k h
theorem WC_loop {c : Code} {Q : Exit → Env → St → Prop} {e0 : Env} {σ0 : St} (M : List Nat) (I : Env → St → Prop) (μ : Env → St → Nat) (h0 : I e0 σ0)
   (round : ∀ s σ, I s σ → WC P n B c (thenE (fun e' σ' => ∃ s', e' = over M s' e0 ∧ I s' σ' ∧ μ s' σ' < μ s σ) Q) (over M s e0) σ) : WC P n B (.loop c) Q e0 σ0 := by
 intro ds a w ha hw
 let J : Act → World → Nat → Prop := fun a w m => ∃ ds s σ, Fits n (B.at ds) a (over M s e0) ∧ Holds (B.at ds) σ w ∧ I s σ ∧ μ s σ = m
 have hov : over M e0 e0 = e0 := by funext t; simp [over]
 refine wpIn_loop (fun a w => ∃ m, J a w m) (fun a w => least (J a w)) ⟨_, ds, e0, σ0, by rw [hov]; exact ha, hw, h0, rfl⟩ fun a w hJ => ?_
 obtain ⟨ds1, s, σ, hf, hh, hI, hm⟩ := Lw hJ
 refine wpIn_mono (round s σ hI ds1 a w hf hh) fun x a' w' hq => ?_
 obtain ⟨ds', e', σ', h1, h2, h3⟩ := hq
 cases x with
 | normal =>
   obtain ⟨s', rfl, hI', hlt⟩ := h3
   have hJ' : J a' w' (μ s' σ') := ⟨ds', s', σ', h1, h2, hI', rfl⟩
   refine ⟨⟨_, hJ'⟩, ?_⟩
   exact Nat.lt_of_le_of_lt (ON hJ') (by rw [← hm]; exact hlt)
 | _ => exact ⟨ds', e', σ', h1, h2, h3⟩
theorem AL {c : Code} {Q : Exit → Env → St → Prop} {e0 : Env} {σ0 : St} (M : List Nat) (I : Nat → Env → St → Prop) (m0 : Nat) (h0 : I m0 e0 σ0)
   (round : ∀ m s σ, I m s σ → WC P n B c (thenE (fun e' σ' => ∃ s' m', e' = over M s' e0 ∧ m' < m ∧ I m' s' σ') Q) (over M s e0) σ) : WC P n B (.loop c) Q e0 σ0 := by
 refine WC_loop M (fun s σ => ∃ m, I m s σ) (fun s σ => least fun m => I m s σ) ⟨m0, h0⟩ fun s σ hI => ?_
 intro ds a w ha hw
 refine wpIn_mono (round _ s σ (Lw hI) ds a w ha hw) fun x a' w' hq => ?_
 obtain ⟨ds', e', σ', h1, h2, h3⟩ := hq
 refine ⟨ds', e', σ', h1, h2, ?_⟩
 cases x with
 | normal =>
   obtain ⟨s', m', h4, h5, h6⟩ := h3
   exact ⟨s', h4, ⟨m', h6⟩, Nat.lt_of_le_of_lt (ON h6) h5⟩
 | _ => exact h3
def isDefer : Op → Bool | .defer _ => true | _ => false
def plainOps (l : List Oper) : Bool := l.all fun o => !isDefer o.op
def Plainly (ro : Option Nat) (l : List Oper) : Prop := ro = none ∨ plainOps l = true
theorem Plainly.mem {ro : Option Nat} {l : List Oper} (h : Plainly ro l) : ∀ o ∈ l, ro = none ∨ isDefer o.op = false := fun o ho => h.imp id fun h => by
 have := List.all_eq_true.1 h o ho
 simpa using this
theorem semAt_eq {ro : Option Nat} {o : Oper} (h : ro = none ∨ isDefer o.op = false) (ρ : Operand → Value) : o.semAt ro ρ = execOp ρ o := by
 rcases h with rfl | h
 · rfl
 exact Oper.semAt_eq ro ρ o fun c hc => by rw [hc] at h; cases h
theorem Mf {ro : Option Nat} {m m' : Machine} : StepsIn (Machine.fenced P (fence ro)) P m m' ↔ Steps P m m' := stepsIn_wide
theorem EY {ro : Option Nat} {k : Nat} {f : FuncId} {args : Array Value} {w : World} {R : Ending → World → Prop} : CallsIn (fence ro) k P f args w R ↔ Calls P f args w R :=
 callsIn_wide (n := k)
theorem Nw {ro : Option Nat} {k : Nat} {row : String} {args : Array Value} {w : World} {R : Value → World → Prop} (h : Rows P row args w R) : RowsIn (fence ro) k P row args w R :=
 fun c cs _ => let ⟨v, w', r, s⟩ := h c cs; ⟨v, w', r, Mf.2 s⟩
theorem T5 {ro : Option Nat} {o : Oper} (hd : ro = none ∨ isDefer o.op = false) {a : Act} {w : World} {next next' : Act → World → Prop} {Q : Exit → Act → World → Prop} (hn : ∀ a w, next a w → next' a w) (h : o.wp P a w next Q) : o.wpIn (fence ro) 0 P a w next' Q := by
 refine ⟨fun _ _ => trivial, ?_⟩
 rw [show (fence ro).round = ro from rfl, semAt_eq hd]
 unfold Oper.wp at h
 generalize (execOp a.eval o).run P w = r at *
 cases r with
 | ok x w' =>
   cases x <;> simp only [Oper.upon, Oper.uponIn] at h ⊢ <;> try exact hn _ _ h
   · exact ⟨fun h => by simp [fence] at h, EY.2 (h.mono fun e w'' he => by cases e <;> first | exact hn _ _ he | exact he)⟩
   exact ⟨fun h => by simp [fence] at h, Nw (h.mono fun v w'' he => hn _ _ he)⟩
 | halt x w' => cases x <;> simp only [Oper.upon, Oper.uponIn] at h ⊢ <;> exact h
theorem J4 {ro : Option Nat} {ops : Array Oper} {Q : Exit → Act → World → Prop} (hO : ¬ LetsOut Q) : ∀ (l : List Oper), (∀ o ∈ l, ro = none ∨ isDefer o.op = false) → ∀ a w, wpList P ops Q l a w → wpListIn (fence ro) 0 P ops Q l a w
 | [], _, _, _, h => h
 | o :: rest, hd, a, w, h => by
   unfold wpList at h
   unfold wpListIn
   split
   · rename_i hw
     rw [if_pos hw] at h
     rcases h with h | h
     · exact T5 (hd o (by simp)) (fun a w h => J4 hO rest (fun o ho => hd o (List.mem_cons_of_mem _ ho)) a w h) h
     exact (hO h.2).elim
   rename_i hw
   rw [if_neg hw] at h
   exact ⟨fun _ _ => trivial, J4 hO rest (fun o ho => hd o (List.mem_cons_of_mem _ ho)) _ _ h⟩
theorem Ex {ro : Option Nat} {ops : Array Oper} {md : Region.Mode} {Q : Exit → Act → World → Prop} (hO : ¬ LetsOut Q) (hd : ∀ o ∈ ops.toList, ro = none ∨ isDefer o.op = false) : ∀ (fuel : Nat) (listed : Array Bool) (a : Act) (w : World), wpAny P md ops Q fuel listed a w → wpAnyIn (fence ro) 0 P md ops Q fuel listed a w
 | 0, _, _, _, h => h
 | fuel + 1, listed, a, w, h => ⟨h.1, fun i hi => by
   have := h.2 i hi
   unfold wpOp at this
   unfold wpOpIn
   split
   · rename_i ho; simp only [ho] at this; exact Ex hO hd fuel _ a w this
   rename_i o ho
   simp only [ho] at this
   split
   · rename_i hw
     rw [if_pos hw] at this
     rcases this with h | h
     · exact T5 (hd o (by simpa using Array.mem_of_getElem? ho)) (fun a w h => Ex hO hd fuel _ a w h) h
     exact (hO h.2).elim
   rename_i hw
   rw [if_neg hw] at this
   exact ⟨fun _ _ => trivial, Ex hO hd fuel _ _ _ this⟩⟩
theorem Jd {Q : Exit → Env → St → Prop} (h : ∀ e σ, Q .outgrown e σ → False) : ¬ LetsOut (lift n B Q) := by
 rintro ⟨a, w, ds, e, σ, -, -, hq⟩
 exact h e σ hq
theorem Ab {K : Env → St → Prop} {Q : Exit → Env → St → Prop} {e : Env} {σ : St} (h : K e σ) : thenE K Q .normal e σ := h
theorem A8 {K : Env → St → Prop} {Q : Exit → Env → St → Prop} {e : Env} {σ : St} {i : Nat} (h : Q (.exit i) e σ) : thenE K Q (.exit i) e σ := h
theorem Ax {K : Env → St → Prop} {Q : Exit → Env → St → Prop} {e : Env} {σ : St} (h : Q .ret e σ) : thenE K Q .ret e σ := h
theorem A0 {id : Nat} {Q : Exit → Env → St → Prop} {e : Env} {σ : St} (h : Q .normal e σ) : blockE id Q .normal e σ := h
theorem A7 {id : Nat} {Q : Exit → Env → St → Prop} {e : Env} {σ : St} (h : Q .ret e σ) : blockE id Q .ret e σ := h
theorem KA {Q : Exit → Env → St → Prop} {e : Env} {σ : St} (h : Q .ret e σ) : scopeE Q .ret e σ := h
end
end
section
open Go.RowKit
section
variable {P : Program} {n : Nat} {B : Base}
theorem Fits.at {a : Act} {e : Env} (h : Fits n B a e) {d : Nat} (hd : d < n) : a.tmps[d]? = some (e d) := by
 have h1 : d < a.tmps.size := by rw [h.size]; exact hd
 have := h.get d
 simp only [Array.getD, h1, dif_pos] at this
 rw [Array.getElem?_eq_getElem h1, ← this]; rfl
theorem QW {e : Env} {d : Nat} {v : Value} : ev (upd e d v) (.tmp d) = v := by simp [ev, upd]
theorem QV {e : Env} {d t : Nat} {v u : Value} (hne : Nat.beq t d = false) (h : ev e (.tmp t) = u) : ev (upd e d v) (.tmp t) = u := by
 have : ¬ t = d := fun e => by subst e; simp at hne
 simpa [ev, upd, this] using h
theorem U8 {args : List Value} {t : Nat} {v : Value} (h : args[t]? = some v) : ev (fun t => args.getD t undef) (.tmp t) = v := by simp [ev, List.getD_eq_getElem?_getD, h]
theorem C4 {e : Env} {v : Value} : ev e (.const v) = v := rfl
theorem lk_off {M : List Nat} {s e : Env} {t : Nat} {u : Value} (hne : M.contains t = false) (h : ev e (.tmp t) = u) : ev (over M s e) (.tmp t) = u := by
 have : ¬ t ∈ M := by simpa using hne
 simpa [ev, over, this] using h
theorem lk_in {M : List Nat} {s e : Env} {t : Nat} {u : Value} (hin : M.contains t = true) (h : s t = u) : ev (over M s e) (.tmp t) = u := by
 have : t ∈ M := by simpa using hin
 simpa [ev, over, this] using h
theorem GD {e : Env} {d0 t : Nat} {v0 u : Value} (h0 : Nat.beq t d0 = false) (h : ev e (.tmp t) = u) : ev (upd e d0 v0) (.tmp t) = u := QV h0 h
theorem GS {e : Env} {d0 d1 t : Nat} {v0 v1 u : Value} (h0 : (Nat.beq t d0 || Nat.beq t d1) = false) (h : ev e (.tmp t) = u) : ev (upd (upd e d1 v1) d0 v0) (.tmp t) = u := by
 rw [Bool.or_eq_false_iff] at h0
 exact GD h0.1 (GD h0.2 h)
theorem KG {e : Env} {d0 d1 d2 d3 t : Nat} {v0 v1 v2 v3 u : Value} (h0 : ((Nat.beq t d0 || Nat.beq t d1) || (Nat.beq t d2 || Nat.beq t d3)) = false) (h : ev e (.tmp t) = u) : ev (upd (upd (upd (upd e d3 v3) d2 v2) d1 v1) d0 v0) (.tmp t) = u := by
 rw [Bool.or_eq_false_iff] at h0
 exact GS h0.1 (GS h0.2 h)
theorem JH {e : Env} {d0 d1 d2 d3 d4 d5 d6 d7 t : Nat} {v0 v1 v2 v3 v4 v5 v6 v7 u : Value} (h0 : (((Nat.beq t d0 || Nat.beq t d1) || (Nat.beq t d2 || Nat.beq t d3)) || ((Nat.beq t d4 || Nat.beq t d5) || (Nat.beq t d6 || Nat.beq t d7))) = false) (h : ev e (.tmp t) = u) : ev (upd (upd (upd (upd (upd (upd (upd (upd e d7 v7) d6 v6) d5 v5) d4 v4) d3 v3) d2 v2) d1 v1) d0 v0) (.tmp t) = u := by
 rw [Bool.or_eq_false_iff] at h0
 exact KG h0.1 (KG h0.2 h)
theorem DU {e : Env} {d0 d1 d2 d3 d4 d5 d6 d7 d8 d9 d10 d11 d12 d13 d14 d15 t : Nat} {v0 v1 v2 v3 v4 v5 v6 v7 v8 v9 v10 v11 v12 v13 v14 v15 u : Value} (h0 : ((((Nat.beq t d0 || Nat.beq t d1) || (Nat.beq t d2 || Nat.beq t d3)) || ((Nat.beq t d4 || Nat.beq t d5) || (Nat.beq t d6 || Nat.beq t d7))) || (((Nat.beq t d8 || Nat.beq t d9) || (Nat.beq t d10 || Nat.beq t d11)) || ((Nat.beq t d12 || Nat.beq t d13) || (Nat.beq t d14 || Nat.beq t d15)))) = false) (h : ev e (.tmp t) = u) : ev (upd (upd (upd (upd (upd (upd (upd (upd (upd (upd (upd (upd (upd (upd (upd (upd e d15 v15) d14 v14) d13 v13) d12 v12) d11 v11) d10 v10) d9 v9) d8 v8) d7 v7) d6 v6) d5 v5) d4 v4) d3 v3) d2 v2) d1 v1) d0 v0) (.tmp t) = u := by
 rw [Bool.or_eq_false_iff] at h0
 exact JH h0.1 (JH h0.2 h)
theorem Cv {e : Env} {d0 d1 d2 d3 d4 d5 d6 d7 d8 d9 d10 d11 d12 d13 d14 d15 d16 d17 d18 d19 d20 d21 d22 d23 d24 d25 d26 d27 d28 d29 d30 d31 t : Nat} {v0 v1 v2 v3 v4 v5 v6 v7 v8 v9 v10 v11 v12 v13 v14 v15 v16 v17 v18 v19 v20 v21 v22 v23 v24 v25 v26 v27 v28 v29 v30 v31 u : Value} (h0 : (((((Nat.beq t d0 || Nat.beq t d1) || (Nat.beq t d2 || Nat.beq t d3)) || ((Nat.beq t d4 || Nat.beq t d5) || (Nat.beq t d6 || Nat.beq t d7))) || (((Nat.beq t d8 || Nat.beq t d9) || (Nat.beq t d10 || Nat.beq t d11)) || ((Nat.beq t d12 || Nat.beq t d13) || (Nat.beq t d14 || Nat.beq t d15)))) || ((((Nat.beq t d16 || Nat.beq t d17) || (Nat.beq t d18 || Nat.beq t d19)) || ((Nat.beq t d20 || Nat.beq t d21) || (Nat.beq t d22 || Nat.beq t d23))) || (((Nat.beq t d24 || Nat.beq t d25) || (Nat.beq t d26 || Nat.beq t d27)) || ((Nat.beq t d28 || Nat.beq t d29) || (Nat.beq t d30 || Nat.beq t d31))))) = false) (h : ev e (.tmp t) = u) : ev (upd (upd (upd (upd (upd (upd (upd (upd (upd (upd (upd (upd (upd (upd (upd (upd (upd (upd (upd (upd (upd (upd (upd (upd (upd (upd (upd (upd (upd (upd (upd (upd e d31 v31) d30 v30) d29 v29) d28 v28) d27 v27) d26 v26) d25 v25) d24 v24) d23 v23) d22 v22) d21 v21) d20 v20) d19 v19) d18 v18) d17 v17) d16 v16) d15 v15) d14 v14) d13 v13) d12 v12) d11 v11) d10 v10) d9 v9) d8 v8) d7 v7) d6 v6) d5 v5) d4 v4) d3 v3) d2 v2) d1 v1) d0 v0) (.tmp t) = u := by
 rw [Bool.or_eq_false_iff] at h0
 exact DU h0.1 (DU h0.2 h)
theorem FP {e : Env} {d : Nat} {v : Value} : ev (upd e d v) (.tmp d) = v := QW
def Off (M : List Nat) (e' e : Env) : Prop := ∀ t, t ∉ M → e' t = e t
theorem Cb {M : List Nat} {e : Env} : Off M e e := fun _ _ => rfl
theorem A2 {M : List Nat} {s e : Env} : Off M (over M s e) e := fun t ht => by simp [over, ht]
theorem off_upd {M : List Nat} {e' e : Env} {d : Nat} {v : Value} (hd : M.contains d = true) (h : Off M e' e) : Off M (upd e' d v) e := by
 intro t ht
 have : ¬ t = d := fun hh => ht (by subst hh; simpa using hd)
 simp only [upd, this, if_false]
 exact h t ht
theorem BX {M : List Nat} {e0 e : Env} {d0 : Nat} {v0 : Value} (h0 : M.contains d0 = true) (h : Off M e e0) : Off M (upd e d0 v0) e0 := off_upd h0 h
theorem BM {M : List Nat} {e0 e : Env} {d0 d1 : Nat} {v0 v1 : Value} (h0 : (M.contains d0 && M.contains d1) = true) (h : Off M e e0) : Off M (upd (upd e d1 v1) d0 v0) e0 := by
 rw [Bool.and_eq_true] at h0
 exact BX h0.1 (BX h0.2 h)
theorem Ca {M : List Nat} {e0 e : Env} {d0 d1 d2 d3 : Nat} {v0 v1 v2 v3 : Value} (h0 : ((M.contains d0 && M.contains d1) && (M.contains d2 && M.contains d3)) = true) (h : Off M e e0) : Off M (upd (upd (upd (upd e d3 v3) d2 v2) d1 v1) d0 v0) e0 := by
 rw [Bool.and_eq_true] at h0
 exact BM h0.1 (BM h0.2 h)
theorem BR {M : List Nat} {e0 e : Env} {d0 d1 d2 d3 d4 d5 d6 d7 : Nat} {v0 v1 v2 v3 v4 v5 v6 v7 : Value} (h0 : (((M.contains d0 && M.contains d1) && (M.contains d2 && M.contains d3)) && ((M.contains d4 && M.contains d5) && (M.contains d6 && M.contains d7))) = true) (h : Off M e e0) : Off M (upd (upd (upd (upd (upd (upd (upd (upd e d7 v7) d6 v6) d5 v5) d4 v4) d3 v3) d2 v2) d1 v1) d0 v0) e0 := by
 rw [Bool.and_eq_true] at h0
 exact Ca h0.1 (Ca h0.2 h)
theorem B3 {M : List Nat} {e0 e : Env} {d0 d1 d2 d3 d4 d5 d6 d7 d8 d9 d10 d11 d12 d13 d14 d15 : Nat} {v0 v1 v2 v3 v4 v5 v6 v7 v8 v9 v10 v11 v12 v13 v14 v15 : Value} (h0 : ((((M.contains d0 && M.contains d1) && (M.contains d2 && M.contains d3)) && ((M.contains d4 && M.contains d5) && (M.contains d6 && M.contains d7))) && (((M.contains d8 && M.contains d9) && (M.contains d10 && M.contains d11)) && ((M.contains d12 && M.contains d13) && (M.contains d14 && M.contains d15)))) = true) (h : Off M e e0) : Off M (upd (upd (upd (upd (upd (upd (upd (upd (upd (upd (upd (upd (upd (upd (upd (upd e d15 v15) d14 v14) d13 v13) d12 v12) d11 v11) d10 v10) d9 v9) d8 v8) d7 v7) d6 v6) d5 v5) d4 v4) d3 v3) d2 v2) d1 v1) d0 v0) e0 := by
 rw [Bool.and_eq_true] at h0
 exact BR h0.1 (BR h0.2 h)
theorem DT {M : List Nat} {e0 e : Env} {d0 d1 d2 d3 d4 d5 d6 d7 d8 d9 d10 d11 d12 d13 d14 d15 d16 d17 d18 d19 d20 d21 d22 d23 d24 d25 d26 d27 d28 d29 d30 d31 : Nat} {v0 v1 v2 v3 v4 v5 v6 v7 v8 v9 v10 v11 v12 v13 v14 v15 v16 v17 v18 v19 v20 v21 v22 v23 v24 v25 v26 v27 v28 v29 v30 v31 : Value} (h0 : (((((M.contains d0 && M.contains d1) && (M.contains d2 && M.contains d3)) && ((M.contains d4 && M.contains d5) && (M.contains d6 && M.contains d7))) && (((M.contains d8 && M.contains d9) && (M.contains d10 && M.contains d11)) && ((M.contains d12 && M.contains d13) && (M.contains d14 && M.contains d15)))) && ((((M.contains d16 && M.contains d17) && (M.contains d18 && M.contains d19)) && ((M.contains d20 && M.contains d21) && (M.contains d22 && M.contains d23))) && (((M.contains d24 && M.contains d25) && (M.contains d26 && M.contains d27)) && ((M.contains d28 && M.contains d29) && (M.contains d30 && M.contains d31))))) = true) (h : Off M e e0) : Off M (upd (upd (upd (upd (upd (upd (upd (upd (upd (upd (upd (upd (upd (upd (upd (upd (upd (upd (upd (upd (upd (upd (upd (upd (upd (upd (upd (upd (upd (upd (upd (upd e d31 v31) d30 v30) d29 v29) d28 v28) d27 v27) d26 v26) d25 v25) d24 v24) d23 v23) d22 v22) d21 v21) d20 v20) d19 v19) d18 v18) d17 v17) d16 v16) d15 v15) d14 v14) d13 v13) d12 v12) d11 v11) d10 v10) d9 v9) d8 v8) d7 v7) d6 v6) d5 v5) d4 v4) d3 v3) d2 v2) d1 v1) d0 v0) e0 := by
 rw [Bool.and_eq_true] at h0
 exact B3 h0.1 (B3 h0.2 h)
theorem Cg {M M' : List Nat} {e e' s : Env} (hd : M'.all (M.contains ·) = true) (h : Off M e' e) : Off M (over M' s e') e := by
 intro t ht
 have : t ∉ M' := fun hh => ht (by have := List.all_eq_true.1 hd t hh; simpa using this)
 simp only [over, this, if_false]
 exact h t ht
theorem Off.eq {M : List Nat} {e' e : Env} (h : Off M e' e) : e' = over M e' e := by
 funext t
 by_cases ht : t ∈ M <;> simp [over, ht]
 exact h t ht
def OpQ (P : Program) (n : Nat) (B : Base) (o : Oper) (e : Env) (σ : St) (v : Value) : Prop :=
 ∀ a w, Fits n B a e → Holds B σ w → Oper.quietAt P o a (Holds B σ) w v
def WQ (P : Program) (n : Nat) (B : Base) (ops : Array Oper) (Q : Env → Prop) (σ : St) (l : List Oper) (e : Env) : Prop :=
 ∀ a, Fits n B a e → wpQuiet P ops (Holds B σ) (fun a' => ∃ e', Fits n B a' e' ∧ Q e') l a
theorem Ao {ops : Array Oper} {Q : Exit → Env → St → Prop} {e : Env} {σ : St} (h : Q .normal e σ) : WL P n B ops Q [] e σ :=
 fun _ _ ha hw => ⟨B.ds, e, σ, ha, hw, h⟩
theorem B0 {ops : Array Oper} {Q : Env → Prop} {e : Env} {σ : St} (h : Q e) : WQ P n B ops Q σ [] e := fun _ ha => ⟨e, ha, h⟩
theorem AQ {id : Nat} {l : List Oper} {Q : Exit → Env → St → Prop} {e : Env} {σ : St} (hp : Plainly B.ro l) (hO : ∀ e σ, Q .outgrown e σ → False) (h : ∀ ds, WL P n (B.at ds) l.toArray Q l e σ) : WC P n B (.region id l.toArray false) Q e σ :=
 fun ds a w ha hw => wpIn_region_lit (J4 (Jd hO) l hp.mem a w (h ds a w ha hw))
theorem Am {id : Nat} {l : List Oper} {Q : Exit → Env → St → Prop} {e : Env} {σ : St} (h : ∀ ds, WL P n (B.at ds) l.toArray Q l e σ) (hp : B.ro = none := by rfl) (hO : ∀ e σ, Q .outgrown e σ → False := by exact fun _ _ h => h) : WC P n B (.region id l.toArray false) Q e σ := AQ (.inl hp) hO h
theorem Bs {id : Nat} {l : List Oper} {Q : Exit → Env → St → Prop} {e : Env} {σ : St} (hp : Plainly B.ro l) (hO : ∀ e σ, Q .outgrown e σ → False) (hm : P.follows .mixedOrders = true) (hB : Region.lexB .any l.toArray = true)
   (h : ∀ ds, WQ P n (B.at ds) l.toArray (fun e' => Q .normal e' σ) σ l e) : WC P n B (.region id l.toArray true) Q e σ := by
 intro ds a w ha hw
 have hB' := hB
 simp only [Region.lexB, Bool.and_eq_true] at hB'
 refine wpIn_region_any hm (Ex (Jd hO) (by simpa using hp.mem) _ _ _ _ ?_)
 refine wpAny_of_quiet (C := Holds (B.at ds) σ) (Q := fun a' => ∃ e', Fits n (B.at ds) a' e' ∧ Q .normal e' σ) (fun a' w' hw' ⟨e', h1, h2⟩ => ⟨ds, e', σ, h1, hw', h2⟩) _ _ _ _ hw.drew ?_
 have := wpAnyQ_lex (P := P) (C := Holds (B.at ds) σ) (md := .any) hB'.1 l 0 (Array.replicate l.toArray.size false) a (by simp) (by simpa using hB'.2) (h ds a ha)
 simpa using this
theorem AN {ops : Array Oper} {Q : Exit → Env → St → Prop} {rest : List Oper} {e : Env} {σ : St} {d : Nat} {op : Op} {ty : TypeId} {pos : String} {af : Array Edge} {v : Value}
   (hd : Nat.blt d n = true) (h : OpQ P n B ⟨some d, op, ty, pos, af, none⟩ e σ v) (hn : WL P n B ops Q rest (upd e d v) σ) : WL P n B ops Q (⟨some d, op, ty, pos, af, none⟩ :: rest) e σ := by
 intro a w ha hw
 have hd' : d < n := by simpa using hd
 unfold wpList
 rw [if_pos (by simp [Region.wanted])]
 refine .inl (Oper.wp_of_quiet (C := Holds B σ) (K := fun a' => ∀ w', Holds B σ w' → wpList P ops (lift n B Q) rest a' w') hw (fun a' w' hw' hK => hK w' hw') ⟨v, fun w' hw' => h a w' ha hw', ?_⟩)
 exact fun w' hw' => hn _ _ (ha.put hd' v) hw'
theorem FJ {ops : Array Oper} {Q : Env → Prop} {rest : List Oper} {e : Env} {σ : St} {d : Nat} {op : Op} {ty : TypeId} {pos : String} {af : Array Edge} {v : Value}
   (hd : Nat.blt d n = true) (h : OpQ P n B ⟨some d, op, ty, pos, af, none⟩ e σ v) (hn : WQ P n B ops Q σ rest (upd e d v)) : WQ P n B ops Q σ (⟨some d, op, ty, pos, af, none⟩ :: rest) e := by
 intro a ha
 have hd' : d < n := by simpa using hd
 unfold wpQuiet
 rw [if_pos (by simp [Region.wanted])]
 exact ⟨v, fun w' hw' => h a w' ha hw', hn _ (ha.put hd' v)⟩
theorem Fu {a : Act} {e : Env} {ops : Array Oper} {d : Option Nat} {op : Op} {ty : TypeId} {pos : String} {af : Array Edge} {j dj : Nat} {b c : Bool} (ha : Fits n B a e)
   (hj : (ops[j]?).bind (·.dst) = some dj) (hd : Nat.blt dj n = true) (hv : ev e (.tmp dj) = .bool c) (hc : c = b) :
   Region.wanted (⟨d, op, ty, pos, af, some (j, b)⟩ : Oper) (yielded ops a.tmps) = true := by
 have := ha.at (by simpa using hd : dj < n)
 simp only [ev] at hv
 subst hc
 simp [Region.wanted, yielded, hj, this, hv]
theorem J5 {a : Act} {e : Env} {ops : Array Oper} {d : Option Nat} {op : Op} {ty : TypeId} {pos : String} {af : Array Edge} {j dj : Nat} {b : Bool} {u : Value} (ha : Fits n B a e)
   (hj : (ops[j]?).bind (·.dst) = some dj) (hd : Nat.blt dj n = true) (hv : ev e (.tmp dj) = u) (hc : u = .bool (!b) ∨ u = undef) :
   Region.wanted (⟨d, op, ty, pos, af, some (j, b)⟩ : Oper) (yielded ops a.tmps) = false := by
 have := ha.at (by simpa using hd : dj < n)
 simp only [ev] at hv
 rcases hc with rfl | rfl
 · cases b <;> simp [Region.wanted, yielded, hj, this, hv]
 simp [Region.wanted, yielded, hj, this, hv, undef]
theorem Ae {ops : Array Oper} {Q : Exit → Env → St → Prop} {rest : List Oper} {e : Env} {σ : St} {d : Option Nat} {op : Op} {ty : TypeId} {pos : String} {af : Array Edge} {j dj : Nat} {b c : Bool}
   (hj : (ops[j]?).bind (·.dst) = some dj) (hd : Nat.blt dj n = true) (hv : ev e (.tmp dj) = .bool c) (hc : c = b)
   (h : WL P n B ops Q (⟨d, op, ty, pos, af, none⟩ :: rest) e σ) : WL P n B ops Q (⟨d, op, ty, pos, af, some (j, b)⟩ :: rest) e σ := by
 intro a w ha hw
 have := h a w ha hw
 unfold wpList at this ⊢
 rw [if_pos (by simp [Region.wanted])] at this
 rw [if_pos (Fu ha hj hd hv hc)]
 exact this
theorem Ah {ops : Array Oper} {Q : Exit → Env → St → Prop} {rest : List Oper} {e : Env} {σ : St} {d : Nat} {op : Op} {ty : TypeId} {pos : String} {af : Array Edge} {j dj : Nat} {b : Bool} {u : Value}
   (hj : (ops[j]?).bind (·.dst) = some dj) (hd : Nat.blt dj n = true) (hv : ev e (.tmp dj) = u) (hc : u = .bool (!b) ∨ u = undef) (hdd : Nat.blt d n = true)
   (h : WL P n B ops Q rest (upd e d undef) σ) : WL P n B ops Q (⟨some d, op, ty, pos, af, some (j, b)⟩ :: rest) e σ := by
 intro a w ha hw
 unfold wpList
 rw [if_neg (by rw [J5 ha hj hd hv hc]; simp)]
 exact h _ _ (ha.put (by simpa using hdd) undef) hw
theorem A3 {ops : Array Oper} {Q : Env → Prop} {rest : List Oper} {e : Env} {σ : St} {d : Option Nat} {op : Op} {ty : TypeId} {pos : String} {af : Array Edge} {j dj : Nat} {b c : Bool}
   (hj : (ops[j]?).bind (·.dst) = some dj) (hd : Nat.blt dj n = true) (hv : ev e (.tmp dj) = .bool c) (hc : c = b)
   (h : WQ P n B ops Q σ (⟨d, op, ty, pos, af, none⟩ :: rest) e) : WQ P n B ops Q σ (⟨d, op, ty, pos, af, some (j, b)⟩ :: rest) e := by
 intro a ha
 have := h a ha
 unfold wpQuiet at this ⊢
 rw [if_pos (by simp [Region.wanted])] at this
 rw [if_pos (Fu ha hj hd hv hc)]
 exact this
theorem A6 {ops : Array Oper} {Q : Env → Prop} {rest : List Oper} {e : Env} {σ : St} {d : Nat} {op : Op} {ty : TypeId} {pos : String} {af : Array Edge} {j dj : Nat} {b : Bool} {u : Value}
   (hj : (ops[j]?).bind (·.dst) = some dj) (hd : Nat.blt dj n = true) (hv : ev e (.tmp dj) = u) (hc : u = .bool (!b) ∨ u = undef) (hdd : Nat.blt d n = true)
   (h : WQ P n B ops Q σ rest (upd e d undef)) : WQ P n B ops Q σ (⟨some d, op, ty, pos, af, some (j, b)⟩ :: rest) e := by
 intro a ha
 unfold wpQuiet
 rw [if_neg (by rw [J5 ha hj hd hv hc]; simp)]
 exact h _ (ha.put (by simpa using hdd) undef)
def OpR (P : Program) (B : Base) (o : Oper) (e : Env) (σ : St) (v : Value) : Prop := ∀ w, Holds B σ w → (execOp (ev e) o).run P w = .ok (.value v) w
theorem OpR.quiet {o : Oper} {e : Env} {σ : St} {v : Value} (h : OpR P B o e σ v) : OpQ P n B o e σ v := by
 intro a w ha hw
 unfold Oper.quietAt
 rw [ha.ev, h w hw]
 exact ⟨rfl, rfl⟩
theorem Ag {ops : Array Oper} {Q : Exit → Env → St → Prop} {rest : List Oper} {e : Env} {σ : St} {d : Nat} {op : Op} {ty : TypeId} {pos : String} {af : Array Edge} {v : Value}
   (hd : Nat.blt d n = true) (h : OpR P B ⟨some d, op, ty, pos, af, none⟩ e σ v) (hn : WL P n B ops Q rest (upd e d v) σ) : WL P n B ops Q (⟨some d, op, ty, pos, af, none⟩ :: rest) e σ := AN hd h.quiet hn
theorem AT {ops : Array Oper} {Q : Env → Prop} {rest : List Oper} {e : Env} {σ : St} {d : Nat} {op : Op} {ty : TypeId} {pos : String} {af : Array Edge} {v : Value}
   (hd : Nat.blt d n = true) (h : OpR P B ⟨some d, op, ty, pos, af, none⟩ e σ v) (hn : WQ P n B ops Q σ rest (upd e d v)) : WQ P n B ops Q σ (⟨some d, op, ty, pos, af, none⟩ :: rest) e := FJ hd h.quiet hn
def OpX (P : Program) (n : Nat) (B : Base) (o : Oper) (e : Env) (σ : St) (K : Value → St → Prop) : Prop :=
 ∀ a w, Fits n B a e → Holds B σ w → ∀ (next : Act → World → Prop) (Qx : Exit → Act → World → Prop), (∀ v σ' w', K v σ' → Holds B σ' w' → next (a.put o.dst v) w') → o.wp P a w next Qx
theorem A5 {ops : Array Oper} {Q : Exit → Env → St → Prop} {rest : List Oper} {e : Env} {σ : St} {d : Nat} {op : Op} {ty : TypeId} {pos : String} {af : Array Edge}
   (hd : Nat.blt d n = true) (h : OpX P n B ⟨some d, op, ty, pos, af, none⟩ e σ fun v σ' => WL P n B ops Q rest (upd e d v) σ') : WL P n B ops Q (⟨some d, op, ty, pos, af, none⟩ :: rest) e σ := by
 intro a w ha hw
 unfold wpList
 rw [if_pos (by simp [Region.wanted])]
 exact .inl (h a w ha hw _ _ fun v σ' w' hK hw' => hK _ _ (ha.put (by simpa using hd) v) hw')
theorem AS {ops : Array Oper} {Q : Exit → Env → St → Prop} {rest : List Oper} {e : Env} {σ : St} {op : Op} {ty : TypeId} {pos : String} {af : Array Edge}
   (h : OpX P n B ⟨none, op, ty, pos, af, none⟩ e σ fun _ σ' => WL P n B ops Q rest e σ') : WL P n B ops Q (⟨none, op, ty, pos, af, none⟩ :: rest) e σ := by
 intro a w ha hw
 unfold wpList
 rw [if_pos (by simp [Region.wanted])]
 exact .inl (h a w ha hw _ _ fun v σ' w' hK hw' => hK _ _ ha hw')
theorem OpX.run {o : Oper} {e : Env} {σ : St} {K : Value → St → Prop} (h : ∀ w, Holds B σ w → ∃ v w' σ', ((execOp (ev e) o).run P w = .ok (.value v) w' ∨ (execOp (ev e) o).run P w = .ok .skip w' ∧ v = undef) ∧ Holds B σ' w' ∧ K v σ') : OpX P n B o e σ K := by
 intro a w ha hw next Qx hnext
 obtain ⟨v, w', σ', h1, h2, h3⟩ := h w hw
 unfold Oper.wp
 rw [ha.ev]
 rcases h1 with h1 | ⟨h1, rfl⟩
 · rw [h1]; exact hnext v σ' w' h3 h2
 rw [h1]; exact hnext undef σ' w' h3 h2
variable {e : Env} {σ : St} {d : Option Nat} {ty : TypeId} {pos : String} {af : Array Edge} {gd : Option (Nat × Bool)}
theorem AI {x : Operand} {v : Value} (hx : ev e x = v) : OpR P B ⟨d, .move x, ty, pos, af, gd⟩ e σ v := fun w _ => by
 simp [execOp, hx]
theorem Bk {x : Operand} {v : Value} (hx : ev e x = v) : OpR P B ⟨d, .assign x, ty, pos, af, gd⟩ e σ v := fun w _ => by
 simp [execOp, hx]
theorem Ar {c x y : Operand} {b : Bool} {v : Value} (hc : ev e c = .bool b) (hb : b = true) (hx : ev e x = v) : OpR P B ⟨d, .pick c x y, ty, pos, af, gd⟩ e σ v := fun w _ => by
 subst hb; simp [execOp, hx, hc, asBool]
theorem As {c x y : Operand} {b : Bool} {v : Value} (hc : ev e c = .bool b) (hb : b = false) (hy : ev e y = v) : OpR P B ⟨d, .pick c x y, ty, pos, af, gd⟩ e σ v := fun w _ => by
 subst hb; simp [execOp, hy, hc, asBool]
theorem CC {x : Operand} {vs : Array Value} {i : Nat} {v : Value} (hx : ev e x = .tuple vs) (hi : vs[i]? = some v) : OpR P B ⟨d, .extract x i, ty, pos, af, gd⟩ e σ v := fun w _ => by
 simp [execOp, hx, Instr.extract, hi]
theorem O4 {x : Operand} {b : Bool} {t : TypeId} (hx : ev e x = .bool b) : OpR P B ⟨d, .unOp .not t x, ty, pos, af, gd⟩ e σ (.bool (!b)) := fun w _ => by
 simp [execOp, hx, Op.unary]
theorem EJ {z : Int} (h1 : -9223372036854775808 ≤ z) (h2 : z ≤ 9223372036854775807) : IntKind.i64.wrap z = z := IntWalk.i64_in _ ⟨by omega, by omega⟩
theorem AG {x y : Operand} {a b c : Int} {t u : TypeId} (hx : ev e x = .int .i64 a) (hy : ev e y = .int .i64 b) (hc : a + b = c) (h1 : -9223372036854775808 ≤ c) (h2 : c ≤ 9223372036854775807) :
   OpR P B ⟨d, .binOp .add t x y u, ty, pos, af, gd⟩ e σ (.int .i64 c) := fun w _ => by
 subst hc; simp [execOp, hx, hy, eqGuard, binOp, Op.intArith, EJ h1 h2]
theorem B4 {x y : Operand} {a b c : Int} {t u : TypeId} (hx : ev e x = .int .i64 a) (hy : ev e y = .int .i64 b) (hc : a - b = c) (h1 : -9223372036854775808 ≤ c) (h2 : c ≤ 9223372036854775807) :
   OpR P B ⟨d, .binOp .sub t x y u, ty, pos, af, gd⟩ e σ (.int .i64 c) := fun w _ => by
 subst hc; simp [execOp, hx, hy, eqGuard, binOp, Op.intArith, EJ h1 h2]
theorem Mx {x y : Operand} {a b c : Int} {t u : TypeId} (hx : ev e x = .int .i64 a) (hy : ev e y = .int .i64 b) (hc : a * b = c) (h1 : -9223372036854775808 ≤ c) (h2 : c ≤ 9223372036854775807) :
   OpR P B ⟨d, .binOp .mul t x y u, ty, pos, af, gd⟩ e σ (.int .i64 c) := fun w _ => by
 subst hc; simp [execOp, hx, hy, eqGuard, binOp, Op.intArith, EJ h1 h2]
theorem q_lss {x y : Operand} {k : IntKind} {a b : Int} {t u : TypeId} (hx : ev e x = .int k a) (hy : ev e y = .int k b) : OpR P B ⟨d, .binOp .lss t x y u, ty, pos, af, gd⟩ e σ (.bool (decide (a < b))) := fun w _ => by
 simp [execOp, hx, hy, eqGuard, binOp, Op.intCmp]
theorem q_leq {x y : Operand} {k : IntKind} {a b : Int} {t u : TypeId} (hx : ev e x = .int k a) (hy : ev e y = .int k b) : OpR P B ⟨d, .binOp .leq t x y u, ty, pos, af, gd⟩ e σ (.bool (decide (a ≤ b))) := fun w _ => by
 simp [execOp, hx, hy, eqGuard, binOp, Op.intCmp]
theorem q_gtr {x y : Operand} {k : IntKind} {a b : Int} {t u : TypeId} (hx : ev e x = .int k a) (hy : ev e y = .int k b) : OpR P B ⟨d, .binOp .gtr t x y u, ty, pos, af, gd⟩ e σ (.bool (decide (b < a))) := fun w _ => by
 simp [execOp, hx, hy, eqGuard, binOp, Op.intCmp]
theorem q_geq {x y : Operand} {k : IntKind} {a b : Int} {t u : TypeId} (hx : ev e x = .int k a) (hy : ev e y = .int k b) : OpR P B ⟨d, .binOp .geq t x y u, ty, pos, af, gd⟩ e σ (.bool (decide (b ≤ a))) := fun w _ => by
 simp [execOp, hx, hy, eqGuard, binOp, Op.intCmp]
theorem CH {x y : Operand} {k : IntKind} {a b : Int} {t u : TypeId} (hx : ev e x = .int k a) (hy : ev e y = .int k b) : OpR P B ⟨d, .binOp .eql t x y u, ty, pos, af, gd⟩ e σ (.bool (decide (a = b))) := fun w _ => by
 simp [execOp, hx, hy, eqGuard, binOp, Op.intCmp]; rfl
theorem q_neq {x y : Operand} {k : IntKind} {a b : Int} {t u : TypeId} (hx : ev e x = .int k a) (hy : ev e y = .int k b) : OpR P B ⟨d, .binOp .neq t x y u, ty, pos, af, gd⟩ e σ (.bool (decide (a ≠ b))) := fun w _ => by
 simp [execOp, hx, hy, eqGuard, binOp, Op.intCmp]; rfl
def SliceT (P : Program) (T E s : Nat) : Prop := P.underlying T = some (.slice E) ∧ ∃ i, P.info? E = some i ∧ i.size = s
def FieldT (P : Program) (T f off : Nat) : Prop := ∃ fs fd i, P.underlying T = some (.struct fs) ∧ fs[f]? = some fd ∧ fd.offset = off ∧ P.info? fd.type = some i ∧ i.size ≠ 0
def OneT (P : Program) (T : Nat) : Prop := ∃ td, P.underlying T = some td ∧ (match td with | .struct _ | .array _ _ => false | _ => true) = true ∧ ∃ i, P.info? T = some i ∧ i.size = 1
def AggT (P : Program) (T s : Nat) : Prop := ∃ td, P.underlying T = some td ∧ (match td with | .struct _ | .array _ _ => true | _ => false) = true ∧ ∃ i, P.info? T = some i ∧ i.size = s
def ZeroT (P : Program) (T : Nat) (v : Value) : Prop := ∃ i, P.info? T = some i ∧ i.zero = some v
def SizeT (P : Program) (T s : Nat) : Prop := ∃ i, P.info? T = some i ∧ i.size = s
theorem Bo {T : Nat} {td : TypeDesc} (h : P.underlying T = some td) (w : World) : (underlying T).run P w = .ok td w := by
 simp [underlying, h]
theorem Ow {T : Nat} {i : TypeInfo} (h : P.info? T = some i) (w : World) : (typeInfo T).run P w = .ok i w := by
 simp [typeInfo, h]
theorem BL {T s : Nat} (h : SizeT P T s) (w : World) : (sizeOf T).run P w = .ok s w := by
 obtain ⟨i, h1, h2⟩ := h
 simp [Go.sizeOf, Ow h1, h2]
theorem E0 {T : Nat} {v : Value} (h : ZeroT P T v) (w : World) : (zeroValue T).run P w = .ok v w := by
 obtain ⟨i, h1, h2⟩ := h
 simp [zeroValue, Ow h1, h2]
theorem Ej {T : Nat} (h : OneT P T) (w : World) : (isAgg T).run P w = .ok false w := by
 obtain ⟨td, h1, h2, -⟩ := h
 cases td <;> simp [isAgg, Bo h1] <;> simp at h2
theorem QJ {T s : Nat} (h : AggT P T s) (w : World) : (isAgg T).run P w = .ok true w := by
 obtain ⟨td, h1, h2, -⟩ := h
 cases td <;> simp [isAgg, Bo h1] <;> simp at h2
theorem OneT.size {T : Nat} (h : OneT P T) : SizeT P T 1 := by obtain ⟨_, _, _, h⟩ := h; exact h
theorem AggT.size {T s : Nat} (h : AggT P T s) : SizeT P T s := by obtain ⟨_, _, _, h⟩ := h; exact h
def sliceB (P : Program) (T E s : Nat) : Bool := (match P.underlying T with | some (.slice E') => E' == E | _ => false) && (match P.info? E with | some i => i.size == s | none => false)
def fieldB (P : Program) (T f off : Nat) : Bool := match P.underlying T with
 | some (.struct fs) => (match fs[f]? with
   | some fd => fd.offset == off && (match P.info? fd.type with | some i => i.size != 0 | none => false)
   | none => false)
 | _ => false
def oneB (P : Program) (T : Nat) : Bool := (match P.underlying T with | some (.struct _) | some (.array _ _) | none => false | _ => true) && (match P.info? T with | some i => i.size == 1 | none => false)
def aggB (P : Program) (T s : Nat) : Bool := (match P.underlying T with | some (.struct _) | some (.array _ _) => true | _ => false) && (match P.info? T with | some i => i.size == s | none => false)
theorem Ci {T E s : Nat} (h : sliceB P T E s = true) : SliceT P T E s := by
 unfold sliceB at h
 simp only [Bool.and_eq_true] at h
 obtain ⟨h1, h2⟩ := h
 split at h1 <;> simp at h1
 split at h2 <;> simp at h2
 rename_i a b c d
 subst h1
 exact ⟨by assumption, _, by assumption, h2⟩
theorem AU {T f off : Nat} (h : fieldB P T f off = true) : FieldT P T f off := by
 unfold fieldB at h
 split at h <;> try (simp at h; done)
 split at h <;> try (simp at h; done)
 simp only [Bool.and_eq_true] at h
 obtain ⟨h1, h2⟩ := h
 split at h2 <;> simp at h2
 simp at h1
 exact ⟨_, _, _, by assumption, by assumption, h1, by assumption, h2⟩
theorem BE {T : Nat} (h : oneB P T = true) : OneT P T := by
 unfold oneB at h
 simp only [Bool.and_eq_true] at h
 obtain ⟨h1, h2⟩ := h
 split at h2 <;> simp at h2
 rename_i i hi
 cases hu : P.underlying T with
 | none => rw [hu] at h1; simp at h1
 | some td => rw [hu] at h1; exact ⟨td, hu, by cases td <;> simp at h1 ⊢, i, hi, h2⟩
theorem Cu {T s : Nat} (h : aggB P T s = true) : AggT P T s := by
 unfold aggB at h
 simp only [Bool.and_eq_true] at h
 obtain ⟨h1, h2⟩ := h
 split at h2 <;> simp at h2
 rename_i i hi
 cases hu : P.underlying T with
 | none => rw [hu] at h1; simp at h1
 | some td => rw [hu] at h1; exact ⟨td, hu, by cases td <;> simp at h1 ⊢, i, hi, h2⟩
theorem Br {T : Nat} {v : Value} (h : (P.info? T).map (·.zero) = some (some v)) : ZeroT P T v := by
 cases hi : P.info? T with
 | none => rw [hi] at h; simp at h
 | some i => rw [hi] at h; simp at h; exact ⟨i, hi, h⟩
theorem Bx {T s : Nat} (h : (P.info? T).map (·.size) = some s) : SizeT P T s := by
 cases hi : P.info? T with
 | none => rw [hi] at h; simp at h
 | some i => rw [hi] at h; simp at h; exact ⟨i, hi, h⟩
def addc (a : Addr) (k : Nat) : Addr := ⟨a.block, a.off + k, none⟩
theorem Cz {a : Addr} (h : a.spot = none) (k : Nat) : a.add k = addc a k := by
 unfold Addr.add addc
 split
 · rename_i h0; subst h0; cases a; simp at h ⊢; exact h
 rfl
theorem DM (a : Addr) (j k : Nat) : addc (addc a j) k = addc a (j + k) := by simp [addc, Nat.add_assoc]
theorem VZ (b o k : Nat) : addc ⟨b, o, none⟩ k = ⟨b, o + k, none⟩ := rfl
def base : Value → Addr
 | .slice (some a) _ _ => ⟨a.block, a.off, none⟩
 | _ => ⟨0, 0, none⟩
def bx (T : Nat) (l : List Value) : Obj := .cells l.toArray T (0, 0)
inductive SetL {α : Type} : List α → Nat → α → List α → Prop
 | here {u x : α} {us : List α} : SetL (u :: us) 0 x (x :: us)
 | next {u x : α} {us us' : List α} {k : Nat} : SetL us k x us' → SetL (u :: us) (k + 1) x (u :: us')
theorem SetL.eq {α : Type} {l l' : List α} {k : Nat} {x : α} (h : SetL l k x l') : l' = l.set k x ∧ k < l.length := by
 induction h with
 | here => simp
 | next _ ih => simp [ih.1, ih.2]
inductive DelL {α : Type} : List α → Nat → List α → Prop
 | here {u : α} {us : List α} : DelL (u :: us) 0 us
 | next {u : α} {us us' : List α} {k : Nat} : DelL us k us' → DelL (u :: us) (k + 1) (u :: us')
theorem DelL.eq {α : Type} {l l' : List α} {k : Nat} (h : DelL l k l') : l' = l.eraseIdx k := by
 induction h with
 | here => simp
 | next _ ih => simp [ih]
def Cell (σ : St) (a : Addr) (v : Value) : Prop :=
 a.spot = none ∧ ∃ c T fr, (σ.F a.block = some (.cells c T fr) ∨ (a.block, Obj.cells c T fr) ∈ σ.H) ∧ c[a.off]? = some v
theorem Cell.get {a : Addr} {v : Value} (h : Cell σ a v) {w : World} (hw : Holds B σ w) : w.cell? a = some v := by
 obtain ⟨hs, c, T, fr, hb, hc⟩ := h
 have hh : w.heap[a.block]? = some (.cells c T fr) := by
   rcases hb with hb | hb
   · exact hw.sub _ _ hb
   exact (hw.own _ hb).1
 unfold World.cell?
 rw [hh]
 simp [hs, hc]
theorem Mg {a : Addr} {v : Value} {w : World} (h : w.cell? a = some v) (m : Mode) : (load a m).run P w = .ok v w := by simp [h]
theorem Ak {T : Nat} {x : Operand} {a : Addr} {v : Value} (hT : OneT P T) (hx : ev e x = .pointer (some a)) (hc : Cell σ a v) : OpR P B ⟨d, .load T x, ty, pos, af, gd⟩ e σ v := fun w hw => by
 simp [execOp, hx, Instr.loadAt, Instr.sureAddr, loadVar, Ej hT, hc.get hw]
theorem DO {a : Addr} {w : World} : ∀ (vs : List Value) (i : Nat) (acc : Array Value), (∀ j v, vs[j]? = some v → w.cell? (a.add (i + j)) = some v) → (loadCellsFrom a i vs.length acc).run P w = .ok (acc ++ vs.toArray) w
 | [], i, acc, _ => by simp [loadCellsFrom]
 | v :: vs, i, acc, h => by
   have h0 := h 0 v (by simp)
   rw [Nat.add_zero] at h0
   simp only [List.length_cons, loadCellsFrom]
   rw [Sem.run_bind, Mg h0]
   simp only [Result.andThen_ok]
   rw [DO vs (i + 1) (acc.push v) (fun j u hj => by have := h (j + 1) u (by simpa using hj); rwa [show i + 1 + j = i + (j + 1) from by omega])]
   simp
theorem AC {T s : Nat} {x : Operand} {a : Addr} {vs : List Value} (hT : AggT P T s) (hx : ev e x = .pointer (some a)) (hs : vs.length = s) (ha : a.spot = none) (hc : ∀ j v, vs[j]? = some v → Cell σ (addc a j) v) :
   OpR P B ⟨d, .load T x, ty, pos, af, gd⟩ e σ (.agg vs.toArray) := fun w hw => by
 subst hs
 have := DO (P := P) (a := a) (w := w) vs 0 #[] (fun j v hj => by rw [Nat.zero_add, Cz ha]; exact (hc j v hj).get hw)
 simp [execOp, hx, Instr.loadAt, Instr.sureAddr, loadVar, QJ hT, BL hT.size, loadCells, this]
theorem Bb {x : Operand} {a : Addr} (hx : ev e x = .pointer (some a)) : OpR P B ⟨d, .nilCheck x, ty, pos, af, gd⟩ e σ (.pointer (some a)) := fun w _ => by
 simp [execOp, hx]
theorem CE {T f off : Nat} {x : Operand} {a : Addr} {k : Nat} (hT : FieldT P T f off) (hx : ev e x = .pointer (some (addc a k))) :
   OpR P B ⟨d, .fieldAddr T x f, ty, pos, af, gd⟩ e σ (.pointer (some (addc a (k + off)))) := fun w _ => by
 obtain ⟨fs, fd, i, h1, h2, h3, h4, h5⟩ := hT
 have hz := BL (P := P) (T := fd.type) (s := i.size) ⟨i, h4, rfl⟩
 simp [execOp, hx, Instr.fieldAt, Bo h1, h2, Instr.sureAddr, fieldPlace, hz, h5, h3, Cz (show (addc a k).spot = none from rfl), DM]
theorem AV {T f off : Nat} {x : Operand} {b k : Nat} (hT : FieldT P T f off) (hx : ev e x = .pointer (some ⟨b, k, none⟩)) :
   OpR P B ⟨d, .fieldAddr T x f, ty, pos, af, gd⟩ e σ (.pointer (some ⟨b, k + off, none⟩)) := fun w _ => by
 obtain ⟨fs, fd, i, h1, h2, h3, h4, h5⟩ := hT
 have hz := BL (P := P) (T := fd.type) (s := i.size) ⟨i, h4, rfl⟩
 simp [execOp, hx, Instr.fieldAt, Bo h1, h2, Instr.sureAddr, fieldPlace, hz, h5, h3, Cz (a := ⟨b, k, none⟩) rfl, addc]
theorem q_eqb {x y : Operand} {a b : Bool} {t u : TypeId} (hT : P.underlying t = some .bool) (hx : ev e x = .bool a) (hy : ev e y = .bool b) : OpR P B ⟨d, .binOp .eql t x y u, ty, pos, af, gd⟩ e σ (.bool (a == b)) := fun w _ => by
 have h := run_equal_bool (P := P) w t a b hT
 simp [execOp, hx, hy, eqGuard, binOp, h]
theorem q_eqs {x y : Operand} {a b : ByteArray} {t u : TypeId} (hx : ev e x = .string a) (hy : ev e y = .string b) : OpR P B ⟨d, .binOp .eql t x y u, ty, pos, af, gd⟩ e σ (.bool (a.toList == b.toList)) := fun w _ => by
 simp [execOp, hx, hy, eqGuard, binOp, Op.stringOp]
theorem q_nes {x y : Operand} {a b : ByteArray} {t u : TypeId} (hx : ev e x = .string a) (hy : ev e y = .string b) : OpR P B ⟨d, .binOp .neq t x y u, ty, pos, af, gd⟩ e σ (.bool (!(a.toList == b.toList))) := fun w _ => by
 simp [execOp, hx, hy, eqGuard, binOp, Op.stringOp]
theorem q_len {T E s : Nat} {x : Operand} {a : Option Addr} {l c : Nat} (hT : SliceT P T E s) (hx : ev e x = .slice a l c) :
   OpR P B ⟨d, .call ⟨.builtin .len, #[x], #[T]⟩, ty, pos, af, gd⟩ e σ (.int .i64 l) := fun w _ => by
 simp [execOp, resolve, invoke, builtin, Builtin.len_, hx, Bo hT.1, goInt]
theorem JC {T : Nat} {x : Operand} {s : ByteArray} (hT : P.underlying T = some .string) (hx : ev e x = .string s) :
   OpR P B ⟨d, .call ⟨.builtin .len, #[x], #[T]⟩, ty, pos, af, gd⟩ e σ (.int .i64 s.size) := fun w _ => by
 simp [execOp, resolve, invoke, builtin, Builtin.len_, hx, Bo hT, goInt]
def Plain (v : Value) (l : Nat) : Prop :=
 ∃ a c, v = .slice a l c ∧ (0 < c → ∀ x, a = some x → x.spot = none) ∧ (a = none → l = 0 ∧ c = 0) ∧ l ≤ c ∧ l < 281474976710656
theorem Plain.one {v : Value} {l : Nat} (h : Plain v l) : v.oneCell' = true := by obtain ⟨a, c, rfl, -⟩ := h; rfl
theorem Plain.lt {v : Value} {l : Nat} (h : Plain v l) : l < 281474976710656 := by obtain ⟨a, c, -, -, -, -, h⟩ := h; exact h
theorem Mz : Plain (.slice none 0 0) 0 := ⟨none, 0, rfl, by simp, by simp, by simp, by simp⟩
theorem A4 {T E s : Nat} {x : Operand} {v : Value} {l : Nat} (hT : SliceT P T E s) (hx : ev e x = v) (hv : Plain v l) :
   OpR P B ⟨d, .call ⟨.builtin .len, #[x], #[T]⟩, ty, pos, af, gd⟩ e σ (.int .i64 l) := by
 obtain ⟨a, c, rfl, -⟩ := hv
 exact q_len hT hx
theorem A1 {T E s : Nat} {x y : Operand} {v : Value} {l k : Nat} {kd : IntKind} {i : Int} (hT : SliceT P T E s) (hx : ev e x = v) (hv : Plain v l) (hy : ev e y = .int kd i) (hi : i = (k : Int)) (hlt : k < l) :
   OpR P B ⟨d, .indexAddr T x y, ty, pos, af, gd⟩ e σ (.pointer (some (addc (base v) (k * s)))) := fun w _ => by
 obtain ⟨ao, c, rfl, hsp, hno, hlc, -⟩ := hv
 cases ao with
 | none => have := (hno rfl).1; omega
 | some a =>
   subst hi
   have hs := BL (P := P) (T := E) (s := s) hT.2
   have : (0 : Int) ≤ (k : Int) ∧ (k : Int) < (l : Int) := ⟨by omega, by omega⟩
   simp only [execOp, hx, hy, Instr.indexAt, asIntOf, Sem.run_bind, Sem.run_pure, Result.andThen_ok, Bo hT.1, this, and_self, if_true, hs, Int.toNat_natCast, Bool.and_false]
   rw [Cz (hsp (by omega) a rfl)]
   rfl
def subslice (v : Value) (lo hi s : Nat) : Value :=
 match v with
 | .slice a _ c => .slice (if c = lo then a else a.map fun x => addc x (lo * s)) (hi - lo) (c - lo)
 | v => v
theorem Ss {v : Value} {l lo hi s : Nat} (hv : Plain v l) (h1 : lo ≤ hi) (h2 : hi ≤ l) : Plain (subslice v lo hi s) (hi - lo) := by
 obtain ⟨a, c, rfl, hsp, hno, hlc, hl⟩ := hv
 refine ⟨_, _, rfl, ?_, ?_, by omega, by omega⟩
 · intro hc0 x hx
   split at hx
   · omega
   cases a with
   | none => simp at hx
   | some a => simp at hx; rw [← hx]; rfl
 intro hx
 split at hx
 · rename_i h; have := hno hx; omega
 cases a with
 | none => have := hno rfl; omega
 | some a => simp at hx
theorem VP {v : Value} {l lo hi s : Nat} (hv : Plain v l) (h1 : lo < hi) (h2 : hi ≤ l) : base (subslice v lo hi s) = addc (base v) (lo * s) := by
 obtain ⟨a, c, rfl, hsp, hno, hlc, hl⟩ := hv
 cases a with
 | none => have := (hno rfl).1; omega
 | some a =>
   have : ¬ c = lo := by omega
   simp [subslice, base, this, addc]
theorem FW {a : Option Addr} (hsp : ∀ x, a = some x → x.spot = none) (k : Nat) : a.map (·.add k) = a.map fun x => addc x k := by
 cases a with
 | none => rfl
 | some a => simp [Cz (hsp a rfl)]
theorem FY {T E s : Nat} {x y : Operand} {v : Value} {l k : Nat} {kd : IntKind} {i : Int} (hT : SliceT P T E s) (hx : ev e x = v) (hv : Plain v l) (hy : ev e y = .int kd i) (hi : i = (k : Int)) (hle : k ≤ l) :
   OpR P B ⟨d, .slice T x (some y) none none, ty, pos, af, gd⟩ e σ (subslice v k l s) := fun w _ => by
 obtain ⟨a, c, rfl, hsp, hno, hlc, -⟩ := hv
 subst hi
 have hs := BL (P := P) (T := E) (s := s) hT.2
 by_cases hc0 : 0 < c
 · have hsp := hsp hc0
   simp [execOp, hx, hy, Instr.sliceAt, Instr.slice, Instr.sliceBounds, Instr.sliceBound, asIntOf, Bo hT.1, hle, hs, subslice, FW hsp, Int.toNat_natCast]
 have e1 : c = 0 := by omega
 subst e1
 have e2 : k = 0 := by omega
 have e3 : l = 0 := by omega
 subst e2; subst e3
 simp [execOp, hx, hy, Instr.sliceAt, Instr.slice, Instr.sliceBounds, Instr.sliceBound, asIntOf, Bo hT.1, hs, subslice]
theorem Dp {T E s : Nat} {x y : Operand} {v : Value} {l k : Nat} {kd : IntKind} {i : Int} (hT : SliceT P T E s) (hx : ev e x = v) (hv : Plain v l) (hy : ev e y = .int kd i) (hi : i = (k : Int)) (hle : k ≤ l) :
   OpR P B ⟨d, .slice T x none (some y) none, ty, pos, af, gd⟩ e σ (subslice v 0 k s) := fun w _ => by
 obtain ⟨a, c, rfl, hsp, hno, hlc, -⟩ := hv
 subst hi
 have hs := BL (P := P) (T := E) (s := s) hT.2
 have : k ≤ c := by omega
 by_cases hc0 : 0 < c
 · have hsp := hsp hc0
   simp [execOp, hx, hy, Instr.sliceAt, Instr.slice, Instr.sliceBounds, Instr.sliceBound, asIntOf, Bo hT.1, this, hs, subslice, FW hsp, Int.toNat_natCast]
 have e1 : c = 0 := by omega
 subst e1
 have e2 : k = 0 := by omega
 subst e2
 simp [execOp, hx, hy, Instr.sliceAt, Instr.slice, Instr.sliceBounds, Instr.sliceBound, asIntOf, Bo hT.1, hs, subslice]
theorem Ue {T E s : Nat} {x y z : Operand} {v : Value} {l k m : Nat} {kd kd' : IntKind} {i j : Int} (hT : SliceT P T E s) (hx : ev e x = v) (hv : Plain v l) (hy : ev e y = .int kd i) (hi : i = (k : Int)) (hz : ev e z = .int kd' j) (hj : j = (m : Int)) (hle : k ≤ m) (hle2 : m ≤ l) :
   OpR P B ⟨d, .slice T x (some y) (some z) none, ty, pos, af, gd⟩ e σ (subslice v k m s) := fun w _ => by
 obtain ⟨a, c, rfl, hsp, hno, hlc, -⟩ := hv
 subst hi; subst hj
 have hs := BL (P := P) (T := E) (s := s) hT.2
 have : m ≤ c := by omega
 by_cases hc0 : 0 < c
 · have hsp := hsp hc0
   simp [execOp, hx, hy, hz, Instr.sliceAt, Instr.slice, Instr.sliceBounds, Instr.sliceBound, asIntOf, Bo hT.1, this, hle, hs, subslice, FW hsp, Int.toNat_natCast]
 have e1 : c = 0 := by omega
 subst e1
 have e2 : k = 0 := by omega
 have e3 : l = 0 := by omega
 have e4 : m = 0 := by omega
 subst e2; subst e3; subst e4
 simp [execOp, hx, hy, hz, Instr.sliceAt, Instr.slice, Instr.sliceBounds, Instr.sliceBound, asIntOf, Bo hT.1, hs, subslice]
theorem Holds.fresh {w : World} (h : Holds B σ w) : σ.F w.heap.size = none := by
 cases hF : σ.F w.heap.size with
 | none => rfl
 | some o => have := h.sub _ _ hF; simp at this
theorem Holds.lt {w : World} (h : Holds B σ w) {p : Nat × Obj} (hp : p ∈ σ.H) : p.1 < w.heap.size := by
 have := (h.own p hp).1
 exact (Array.getElem?_eq_some_iff.1 this).1
theorem E9 {w : World} {o : Obj} {b : Nat} {u : Obj} (h : w.heap[b]? = some u) : (w.alloc o).heap[b]? = some u := by
 have := (Array.getElem?_eq_some_iff.1 h).1
 rw [Below.heap_alloc w o b this]; exact h
theorem Holds.alloc {w : World} (h : Holds B σ w) (o : Obj) : Holds B ⟨σ.F, (w.heap.size, o) :: σ.H⟩ (w.alloc o) where
 os := h.os
 tape := h.tape
 output := h.output
 size := by have := h.size; simp; omega
 old := fun b hb hM => by rw [Below.heap_alloc w o b (by have := h.size; omega)]; exact h.old b hb hM
 sub := fun b u hu => E9 (h.sub b u hu)
 own := fun p hp => by
   rcases List.mem_cons.1 hp with rfl | hp
   · refine ⟨?_, h.fresh, .inl h.size⟩
     show (w.heap.push o)[w.heap.size]? = some o
     simp
   obtain ⟨h1, h2, h3⟩ := h.own p hp
   exact ⟨E9 h1, h2, h3⟩
 nodup := by
   simp only [List.map_cons, List.nodup_cons]
   refine ⟨fun hm => ?_, h.nodup⟩
   obtain ⟨p, hp, he⟩ := List.mem_map.1 hm
   have := h.lt hp
   omega
 ext := h.ext
 le := h.le
 marks := fun D hD => by
   obtain ⟨h1, h2, h3, h4⟩ := h.marks D hD
   refine ⟨E9 h1, h2, h3, ?_⟩
   have := (Array.getElem?_eq_some_iff.1 h1).1
   simp only [List.map_cons, List.mem_cons, not_or]
   exact ⟨by omega, h4⟩
 dnodup := h.dnodup
theorem Ty {o : Oper} {u : Obj} {K : Value → St → Prop} (h : ∀ w, Holds B σ w → (execOp (ev e) o).run P w = .ok (.value (.pointer (some ⟨w.heap.size, 0, none⟩))) (w.alloc u))
   (hn : ∀ b, B.w0.heap.size ≤ b → σ.F b = none → K (.pointer (some ⟨b, 0, none⟩)) ⟨σ.F, (b, u) :: σ.H⟩) : OpX P n B o e σ K :=
 .run fun w hw => ⟨_, _, _, .inl (h w hw), hw.alloc u, hn _ hw.size hw.fresh⟩
theorem AO {T : Nat} {z : Value} {l : List Value} {K : Value → St → Prop} (hz : ZeroT P T z) (hl : z.cells = l.toArray) (hn : ∀ b, B.w0.heap.size ≤ b → σ.F b = none → K (.pointer (some ⟨b, 0, none⟩)) ⟨σ.F, (b, bx T l) :: σ.H⟩) :
   OpX P n B ⟨d, .alloc T, ty, pos, af, gd⟩ e σ K := Ty (fun w _ => by simp [execOp, Instr.alloc, E0 hz, newVar, newRow, hl, bx]) hn
theorem Bg {T : Nat} {x : Operand} {v : Value} {l : List Value} {K : Value → St → Prop} (hx : ev e x = v) (hl : v.cells = l.toArray) (hn : ∀ b, B.w0.heap.size ≤ b → σ.F b = none → K (.pointer (some ⟨b, 0, none⟩)) ⟨σ.F, (b, bx T l) :: σ.H⟩) :
   OpX P n B ⟨d, .box T x, ty, pos, af, gd⟩ e σ K := Ty (fun w _ => by simp [execOp, Instr.box, hx, newVar, newRow, hl, bx]) hn
def setAt : Array Value → Nat → List Value → Array Value
 | c, _, [] => c
 | c, k, v :: vs => setAt (c.setIfInBounds k v) (k + 1) vs
theorem Holds.write {w : World} (h : Holds B σ w) {i b T : Nat} {c c' : Array Value} (hi : σ.H[i]? = some (b, .cells c T (0, 0))) {w' : World}
   (hos : w'.os = w.os) (ht : w'.tape = w.tape) (ho : w'.output = w.output) (hsz : w'.heap.size = w.heap.size)
   (hb : w'.heap[b]? = some (.cells c' T (0, 0))) (hne : ∀ k, k ≠ b → w'.heap[k]? = w.heap[k]?) : Holds B ⟨σ.F, σ.H.set i (b, .cells c' T (0, 0))⟩ w' := by
 obtain ⟨hil, hie⟩ := List.getElem?_eq_some_iff.1 hi
 have hmem : (b, Obj.cells c T (0, 0)) ∈ σ.H := List.mem_of_getElem? hi
 obtain ⟨hb1, hb2, hb3⟩ := h.own _ hmem
 have hkeys : (σ.H.set i (b, .cells c' T (0, 0))).map (·.1) = σ.H.map (·.1) := by
   rw [List.map_set]
   have : (σ.H.map (·.1))[i]? = some b := by simp [hi]
   exact List.ext_getElem? fun j => by
     rw [List.getElem?_set]
     split
     · rename_i hj; subst hj
       rw [this]; simp [hil]
     rfl
 refine ⟨hos.trans h.os, ht.trans h.tape, ho.trans h.output, by rw [hsz]; exact h.size, ?_, ?_, ?_, by rw [hkeys]; exact h.nodup, h.ext, h.le, fun D hD => ?_, h.dnodup⟩
 · intro k hk hM
   have : k ≠ b := by
     rintro rfl
     rcases hb3 with hb3 | hb3
     · simp at hb3; omega
     exact hM hb3
   rw [hne k this]; exact h.old k hk hM
 · intro k o hk
   have : k ≠ b := by
     rintro rfl
     simp only at hb2 hk
     rw [hb2] at hk; cases hk
   rw [hne k this]; exact h.sub k o hk
 · intro p hp
   obtain ⟨j, hj⟩ := List.getElem?_of_mem hp
   rw [List.getElem?_set] at hj
   split at hj
   · rename_i hij
     simp only [Option.some.injEq] at hj
     subst hj
     exact ⟨hb, hb2, hb3⟩
   rename_i hij
   have hpm : p ∈ σ.H := List.mem_of_getElem? hj
   obtain ⟨h1, h2, h3⟩ := h.own p hpm
   have : p.1 ≠ b := by
     intro he
     have hnd := h.nodup
     have e1 : (σ.H.map (·.1))[i]? = some b := by simp [hi]
     have e2 : (σ.H.map (·.1))[j]? = some b := by simp [hj, he]
     have hjl : j < (σ.H.map (·.1)).length := (List.getElem?_eq_some_iff.1 e2).1
     exact hij (((List.getElem?_inj hjl hnd).1 (by rw [e1, e2])).symm)
   exact ⟨by rw [hne _ this]; exact h1, h2, h3⟩
 obtain ⟨h1, h2, h3, h4⟩ := h.marks D hD
 have : D ≠ b := fun he => h4 (by rw [he]; exact List.mem_map_of_mem hmem)
 exact ⟨by rw [hne _ this]; exact h1, h2, h3, by rw [hkeys]; exact h4⟩
theorem B9 {v : Value} (h : v.oneCell' = true) : v.cells = [v].toArray := by cases v <;> first | rfl | cases h
theorem D0 {b T : Nat} : ∀ (vs : List Value) (k j : Nat) (c : Array Value) (w : World), w.heap[b]? = some (.cells c T (0, 0)) → k + j + vs.length ≤ c.size → (∀ u ∈ vs, u.oneCell' = true) →
   ∃ w', (storeCells ⟨b, k, none⟩ vs j).run P w = .ok () w' ∧ w'.os = w.os ∧ w'.tape = w.tape ∧ w'.output = w.output ∧ w'.heap.size = w.heap.size ∧ w'.heap[b]? = some (.cells (setAt c (k + j) vs) T (0, 0)) ∧ ∀ m, m ≠ b → w'.heap[m]? = w.heap[m]?
 | [], k, j, c, w, hb, _, _ => ⟨w, by simp [storeCells], rfl, rfl, rfl, rfl, hb, fun _ _ => rfl⟩
 | v :: vs, k, j, c, w, hb, hl, h1 => by
   have hcell : w.cell? ⟨b, k + j, none⟩ = some (c[k + j]'(by simp at hl; omega)) := by
     unfold World.cell?; rw [hb]; simp at hl ⊢
   have hfr : w.frozen? ⟨b, k + j, none⟩ = false := by unfold World.frozen?; rw [hb]; simp
   have hset : (w.setCell ⟨b, k + j, none⟩ v).heap[b]? = some (.cells (c.setIfInBounds (k + j) v) T (0, 0)) := by
     simp [World.setCell, Array.getElem?_modify, hb]
   obtain ⟨w', e1, e2, e3, e4, e5, e6, e7⟩ := D0 vs k (j + 1) _ (w.setCell ⟨b, k + j, none⟩ v) hset (by simp at hl ⊢; omega) (fun u hu => h1 u (List.mem_cons_of_mem _ hu))
   have hrun : (store ⟨b, k + j, none⟩ v).run P w = .ok () (w.setCell ⟨b, k + j, none⟩ v) := by
     rw [run_store P w _ v _ (h1 v (by simp))]
     simp [hcell, hfr]
   refine ⟨w', ?_, e2, e3, e4, by rw [e5]; simp [World.setCell], by rw [e6]; rfl, fun m hm => ?_⟩
   · unfold storeCells
     rw [Cz (a := ⟨b, k, none⟩) rfl, VZ, Sem.run_bind, hrun]
     exact e1
   rw [e7 m hm]
   exact Below.heap_setCell _ _ _ _ hm
theorem Hm {b k T : Nat} {v : Value} {l : List Value} {w : World} (hb : w.heap[b]? = some (bx T l)) (hk : k < l.length) (h1 : v.oneCell' = true) :
   ∃ w', (storeCells ⟨b, k, none⟩ [v]).run P w = .ok () w' ∧ w'.os = w.os ∧ w'.tape = w.tape ∧ w'.output = w.output ∧ w'.heap.size = w.heap.size ∧ w'.heap[b]? = some (bx T (l.set k v)) ∧ ∀ m, m ≠ b → w'.heap[m]? = w.heap[m]? := by
 obtain ⟨w', e1, e2, e3, e4, e5, e6, e7⟩ := D0 (P := P) [v] k 0 l.toArray w hb (by simp; omega) (by simpa using h1)
 exact ⟨w', e1, e2, e3, e4, e5, by rw [e6]; simp [setAt, bx], e7⟩
theorem J9 : ∀ (vs pre : List Value) (c : List Value), c.length = vs.length → setAt (pre ++ c).toArray pre.length vs = (pre ++ vs).toArray
 | [], pre, c, h => by have : c = [] := List.eq_nil_of_length_eq_zero h; subst this; rfl
 | v :: vs, pre, [], h => by simp at h
 | v :: vs, pre, u :: c, h => by
   unfold setAt
   have : (pre ++ u :: c).toArray.setIfInBounds pre.length v = ((pre ++ [v]) ++ c).toArray := by simp
   rw [this]
   have := J9 vs (pre ++ [v]) c (by simpa using h)
   simp only [List.length_append, List.length_singleton] at this
   rw [this]; simp
theorem Bf {T TB i b k : Nat} {x y : Operand} {v : Value} {l l' : List Value} {H' : List (Nat × Obj)} {K : Value → St → Prop} (hT : SizeT P T 1)
   (hx : ev e x = .pointer (some ⟨b, k, none⟩)) (hy : ev e y = v) (hi : σ.H[i]? = some (b, bx TB l)) (hk : SetL l k v l') (h1 : v.oneCell' = true) (hH : SetL σ.H i (b, bx TB l') H')
   (hn : K undef ⟨σ.F, H'⟩) : OpX P n B ⟨d, .store T x y, ty, pos, af, gd⟩ e σ K := .run fun w hw => by
 have hb := (hw.own _ (List.mem_of_getElem? hi)).1
 obtain ⟨w', e1, e2, e3, e4, e5, e6, e7⟩ := Hm (P := P) hb hk.eq.2 h1
 have hrun : (execOp (ev e) ⟨d, .store T x y, ty, pos, af, gd⟩).run P w = .ok .skip w' := by
   simp [execOp, hx, hy, Instr.storeAt, Instr.sureAddr, storeVar, B9 h1, BL hT, e1]
 rw [hH.eq.1, hk.eq.1] at hn
 exact ⟨_, _, _, .inr ⟨hrun, rfl⟩, hw.write hi e2 e3 e4 e5 e6 e7, hn⟩
theorem Df {T TB i b k : Nat} {x y : Operand} {ad : Addr} {v : Value} {l : List Value} {H' : List (Nat × Obj)} {K : Value → St → Prop} (hT : SizeT P T 1)
   (hx : ev e x = .pointer (some ad)) (had : ad = ⟨b, k, none⟩) (hy : ev e y = v) (hi : σ.H[i]? = some (b, bx TB l)) (hk : k < l.length) (h1 : v.oneCell' = true) (hH : SetL σ.H i (b, bx TB (l.set k v)) H')
   (hn : K undef ⟨σ.F, H'⟩) : OpX P n B ⟨d, .store T x y, ty, pos, af, gd⟩ e σ K := .run fun w hw => by
 subst had
 have hb := (hw.own _ (List.mem_of_getElem? hi)).1
 obtain ⟨w', e1, e2, e3, e4, e5, e6, e7⟩ := Hm (P := P) hb hk h1
 have hrun : (execOp (ev e) ⟨d, .store T x y, ty, pos, af, gd⟩).run P w = .ok .skip w' := by
   simp [execOp, hx, hy, Instr.storeAt, Instr.sureAddr, storeVar, B9 h1, BL hT, e1]
 rw [hH.eq.1] at hn
 exact ⟨_, _, _, .inr ⟨hrun, rfl⟩, hw.write hi e2 e3 e4 e5 e6 e7, hn⟩
theorem AP {T TB s i b : Nat} {x y : Operand} {v : Value} {l vs : List Value} {H' : List (Nat × Obj)} {K : Value → St → Prop} (hT : SizeT P T s)
   (hx : ev e x = .pointer (some ⟨b, 0, none⟩)) (hy : ev e y = v) (hi : σ.H[i]? = some (b, bx TB l)) (hv : v.cells = vs.toArray) (hs : vs.length = s) (hl : l.length = s) (h1 : ∀ u ∈ vs, u.oneCell' = true) (hH : SetL σ.H i (b, bx TB vs) H')
   (hn : K undef ⟨σ.F, H'⟩) : OpX P n B ⟨d, .store T x y, ty, pos, af, gd⟩ e σ K := .run fun w hw => by
 have hb := (hw.own _ (List.mem_of_getElem? hi)).1
 obtain ⟨w', e1, e2, e3, e4, e5, e6, e7⟩ := D0 (P := P) vs 0 0 l.toArray w hb (by simp; omega) h1
 have hset := J9 vs [] l (by omega)
 simp only [List.nil_append, List.length_nil] at hset
 rw [Nat.zero_add, hset] at e6
 have hrun : (execOp (ev e) ⟨d, .store T x y, ty, pos, af, gd⟩).run P w = .ok .skip w' := by
   simp [execOp, hx, hy, Instr.storeAt, Instr.sureAddr, storeVar, hv, BL hT, hs, e1]
 rw [hH.eq.1] at hn
 exact ⟨_, _, _, .inr ⟨hrun, rfl⟩, hw.write hi e2 e3 e4 e5 e6 e7, hn⟩
end
end
section
open Go.RowKit
def Sub (F : Heap) (w : World) : Prop := ∀ b o, F b = some o → w.heap[b]? = some o
def keys (H : List (Nat × Obj)) : List Nat := H.map (·.1)
structure Grow (w : World) (F : Heap) (M : List Nat) (w' : World) (F' : Heap) : Prop where
 os : w'.os = w.os
 tape : w'.tape = w.tape
 output : w'.output = w.output
 size : w.heap.size ≤ w'.heap.size
 old : ∀ b, b < w.heap.size → b ∉ M → w'.heap[b]? = w.heap[b]?
 le : F.le F'
 sub : Sub F' w'
 ext : ∀ b, b < w.heap.size → F' b = F b
def OkM (P : Program) (f : FuncId) (args : Array Value) (F : Heap) (H : List (Nat × Obj)) (R : Value → Heap → List (Nat × Obj) → Prop) : Prop :=
 ∀ w, Sub F w → (∀ p ∈ H, w.heap[p.1]? = some p.2 ∧ F p.1 = none) → (keys H).Nodup →
   Calls P f args w fun r w' => ∃ v F' H', r = .returned v ∧ Grow w F (keys H) w' F' ∧ keys H' = keys H ∧ (∀ p ∈ H', w'.heap[p.1]? = some p.2) ∧ R v F' H'
def Ok (P : Program) (f : FuncId) (args : Array Value) (F : Heap) (R : Value → Heap → Prop) : Prop :=
 OkM P f args F [] fun v F' _ => R v F'
theorem OkM.mono {P : Program} {f : FuncId} {args : Array Value} {F : Heap} {H : List (Nat × Obj)} {R R' : Value → Heap → List (Nat × Obj) → Prop} (h : OkM P f args F H R)
   (hr : ∀ v F' H', F.le F' → R v F' H' → R' v F' H') : OkM P f args F H R' := by
 intro w h1 h2 h3
 refine (h w h1 h2 h3).mono fun r w' hq => ?_
 obtain ⟨v, F', H', q1, q2, q3, q4, q5⟩ := hq
 exact ⟨v, F', H', q1, q2, q3, q4, hr v F' H' q2.le q5⟩
theorem Ok.mono {P : Program} {f : FuncId} {args : Array Value} {F : Heap} {R R' : Value → Heap → Prop} (h : Ok P f args F R) (hr : ∀ v F', F.le F' → R v F' → R' v F') : Ok P f args F R' :=
 OkM.mono h fun v F' _ => hr v F'
section
variable {P : Program} {n : Nat} {B : Base} {e : Env} {σ : St} {ty : TypeId} {pos : String} {af : Array Edge}
inductive Av (e : Env) : List Operand → List Value → Prop
 | nil : Av e [] []
 | cons {x : Operand} {xs : List Operand} {v : Value} {vs : List Value} : ev e x = v → Av e xs vs → Av e (x :: xs) (v :: vs)
theorem Av.map {xs : List Operand} {vs : List Value} (h : Av e xs vs) : xs.map (ev e) = vs := by
 induction h with
 | nil => rfl
 | cons h1 _ ih => simp [h1, ih]
def Body (P : Program) (g : FuncId) : Prop := ∃ fn, P.funcs[g]? = some fn ∧ fn.body.isNone = false ∧ (fn.name == "runtime.NumGoroutine") = false
def bodyB (P : Program) (g : FuncId) : Bool := match P.funcs[g]? with | some fn => !fn.body.isNone && !(fn.name == "runtime.NumGoroutine") | none => false
theorem AE {g : FuncId} (h : bodyB P g = true) : Body P g := by
 unfold bodyB at h
 split at h <;> simp at h
 rename_i fn hf
 exact ⟨fn, hf, by simpa using h.1, by simpa using h.2⟩
theorem Ek {g : FuncId} (h : Body P g) (args : Array Value) (w : World) : (callFunc g args).run P w = .ok (.enter g args) w := by
 obtain ⟨fn, h1, h2, h3⟩ := h
 simp only [callFunc, Sem.run_bind, run_program, Result.andThen_ok, h1, h3, h2]
 simp
theorem E1 {g : FuncId} {f : Operand} {cs vs : List Value} {xs : List Operand} {at_ : Array TypeId} {d : Option Nat} (hg : Body P g) (hf : ev e f = .func (.func g) #[] cs.toArray) (hx : Av e xs vs) (w : World) :
   (execOp (ev e) ⟨d, .call ⟨.value f, xs.toArray, at_⟩, ty, pos, af, none⟩).run P w = .ok (.enter g (vs ++ cs).toArray) w := by
 have hm := hx.map
 simp [execOp, resolve, invoke, Deferred.ofValue, hf, Ek hg, hm]
theorem Holds.grow {w : World} (h : Holds B σ w) {Hc rest : List (Nat × Obj)} {w' : World} {F' : Heap} {H' : List (Nat × Obj)} (hH : σ.H = Hc ++ rest)
   (hg : Grow w σ.F (keys Hc) w' F') (hk : keys H' = keys Hc) (hH' : ∀ p ∈ H', w'.heap[p.1]? = some p.2) : Holds B ⟨F', H' ++ rest⟩ w' := by
 have hkeys : (H' ++ rest).map (·.1) = σ.H.map (·.1) := by
   rw [hH, List.map_append, List.map_append]; exact congrArg (· ++ rest.map (·.1)) hk
 have hin : ∀ p ∈ H', ∃ q ∈ Hc, q.1 = p.1 := fun p hp => by
   have : p.1 ∈ keys Hc := by rw [← hk]; exact List.mem_map_of_mem hp
   obtain ⟨q, hq, he⟩ := List.mem_map.1 this
   exact ⟨q, hq, he⟩
 refine ⟨hg.os.trans h.os, hg.tape.trans h.tape, hg.output.trans h.output, Nat.le_trans h.size hg.size, ?_, hg.sub, ?_, by rw [hkeys]; exact h.nodup, ?_, Heap.le_trans h.le hg.le, fun D hD => ?_, h.dnodup⟩
 · intro b hb hM
   have hnot : b ∉ keys Hc := by
     intro hm
     obtain ⟨p, hp, rfl⟩ := List.mem_map.1 hm
     rcases (h.own p (by rw [hH]; exact List.mem_append_left _ hp)).2.2 with h1 | h1
     · omega
     exact hM h1
   rw [hg.old b (by have := h.size; omega) hnot]; exact h.old b hb hM
 · intro p hp
   rcases List.mem_append.1 hp with hp | hp
   · obtain ⟨q, hq, he⟩ := hin p hp
     have hq' : q ∈ σ.H := by rw [hH]; exact List.mem_append_left _ hq
     obtain ⟨h1, h2, h3⟩ := h.own q hq'
     have hlt := h.lt hq'
     rw [he] at h2 h3 hlt
     exact ⟨hH' p hp, (hg.ext _ hlt).trans h2, h3⟩
   have hp' : p ∈ σ.H := by rw [hH]; exact List.mem_append_right _ hp
   obtain ⟨h1, h2, h3⟩ := h.own p hp'
   have hlt := h.lt hp'
   have hnot : p.1 ∉ keys Hc := by
     intro hm
     have hnd := h.nodup
     rw [hH, List.map_append] at hnd
     exact (List.nodup_append.1 hnd).2.2 _ hm _ (List.mem_map_of_mem hp) rfl
   exact ⟨by rw [hg.old _ hlt hnot]; exact h1, (hg.ext _ hlt).trans h2, h3⟩
 · intro b hb
   exact (hg.ext b (by have := h.size; omega)).trans (h.ext b hb)
 obtain ⟨h1, h2, h3, h4⟩ := h.marks D hD
 have hlt := (Array.getElem?_eq_some_iff.1 h1).1
 have hnot : D ∉ keys Hc := fun hm => h4 (by rw [hH, List.map_append]; exact List.mem_append_left _ hm)
 exact ⟨by rw [hg.old _ hlt hnot]; exact h1, (hg.ext _ hlt).trans h2, h3, by rw [hkeys]; exact h4⟩
theorem Eh {d : Option Nat} {g : FuncId} {f : Operand} {cs vs : List Value} {xs : List Operand} {at_ : Array TypeId} {Hc Hr : List (Nat × Obj)}
   {R : Value → Heap → List (Nat × Obj) → Prop} {K : Value → St → Prop} (hg : Body P g) (hf : ev e f = .func (.func g) #[] cs.toArray) (hx : Av e xs vs) (hH : σ.H = Hc ++ Hr)
   (hok : OkM P g (vs ++ cs).toArray σ.F Hc R) (hn : ∀ v F' H', R v F' H' → σ.F.le F' → K v ⟨F', H' ++ Hr⟩) :
   OpX P n B ⟨d, .call ⟨.value f, xs.toArray, at_⟩, ty, pos, af, none⟩ e σ K := by
 intro a w ha hw next Qx hnext
 unfold Oper.wp
 rw [ha.ev, E1 hg hf hx, Oper.upon_enter]
 refine (hok w hw.sub (fun p hp => ?_) ?_).mono fun r w' hq => ?_
 · obtain ⟨h1, h2, -⟩ := hw.own p (by rw [hH]; exact List.mem_append_left _ hp)
   exact ⟨h1, h2⟩
 · have := hw.nodup
   rw [hH, List.map_append] at this
   exact (List.nodup_append.1 this).1
 obtain ⟨v, F', H', rfl, hg', hk, hH', hR⟩ := hq
 exact hnext v _ w' (hn v F' H' hR hg'.le) (hw.grow hH hg' hk hH')
theorem Bi {d : Option Nat} {g : FuncId} {f : Operand} {cs vs : List Value} {xs : List Operand} {at_ : Array TypeId}
   {R : Value → Heap → Prop} {K : Value → St → Prop} (hg : Body P g) (hf : ev e f = .func (.func g) #[] cs.toArray) (hx : Av e xs vs)
   (hok : Ok P g (vs ++ cs).toArray σ.F R) (hn : ∀ v F', R v F' → σ.F.le F' → K v ⟨F', σ.H⟩) :
   OpX P n B ⟨d, .call ⟨.value f, xs.toArray, at_⟩, ty, pos, af, none⟩ e σ K := by
 intro a w ha hw next Qx hnext
 unfold Oper.wp
 rw [ha.ev, E1 hg hf hx, Oper.upon_enter]
 refine (hok w hw.sub (by simp) (by simp [keys])).mono fun r w' hq => ?_
 obtain ⟨v, F', H', rfl, hg', hk, hH', hR⟩ := hq
 have : H' = [] := by cases H' with | nil => rfl | cons p H' => simp [keys] at hk
 subst this
 exact hnext v _ w' (hn v F' hR hg'.le) (by simpa using hw.grow (Hc := []) (rest := σ.H) (H' := []) rfl hg' hk hH')
theorem Ay {d : Option Nat} {g : FuncId} {f : Operand} {cs vs : List Value} {xs : List Operand} {at_ : Array TypeId} {R : Value → Heap → Prop} {v : Value} (hg : Body P g) (hf : ev e f = .func (.func g) #[] cs.toArray) (hx : Av e xs vs)
   (hok : Ok P g (vs ++ cs).toArray σ.F R) (hR : ∀ u F', R u F' → u = v) : OpQ P n B ⟨d, .call ⟨.value f, xs.toArray, at_⟩, ty, pos, af, none⟩ e σ v := by
 intro a w ha hw
 unfold Oper.quietAt
 rw [ha.ev, E1 hg hf hx]
 refine ⟨rfl, (hok w hw.sub (by simp) (by simp [keys])).mono fun r w' hq => ?_⟩
 obtain ⟨u, F', H', rfl, hg', hk, hH', hR'⟩ := hq
 have : H' = [] := by cases H' with | nil => rfl | cons p H' => simp [keys] at hk
 subst this
 have h := hw.grow (Hc := []) (rest := σ.H) (H' := []) rfl hg' hk hH'
 refine ⟨by rw [hR u F' hR'], ⟨h.os, h.tape, h.output, h.size, h.old, fun b o hb => h.sub b o (hg'.le b o hb), fun p hp => ?_, hw.nodup, hw.ext, hw.le, fun D hD => ?_, hw.dnodup⟩⟩
 · obtain ⟨h1, h2, h3⟩ := h.own p (by simpa using hp)
   exact ⟨h1, (hw.own p hp).2.1, h3⟩
 exact ⟨(h.marks D hD).1, (hw.marks D hD).2.1, (hw.marks D hD).2.2.1, (hw.marks D hD).2.2.2⟩
open Classical in
noncomputable def joined (σ : St) : Heap := fun b => if h : ∃ p ∈ σ.H, p.1 = b then some (Classical.choose h).2 else σ.F b
theorem Hz {w : World} (hw : Holds B σ w) {p : Nat × Obj} (hp : p ∈ σ.H) : joined σ p.1 = some p.2 := by
 have h : ∃ q ∈ σ.H, q.1 = p.1 := ⟨p, hp, rfl⟩
 unfold joined
 rw [dif_pos h]
 obtain ⟨h1, h2⟩ := Classical.choose_spec h
 have e1 := (hw.own _ h1).1
 have e2 := (hw.own _ hp).1
 rw [h2] at e1
 rw [e1] at e2
 exact e2
theorem GG {w : World} (hw : Holds B σ w) : σ.F.le (joined σ) := fun b o hb => by
 unfold joined
 split
 · rename_i h
   obtain ⟨h1, h2⟩ := Classical.choose_spec h
   have := (hw.own _ h1).2.1
   rw [h2, hb] at this; cases this
 exact hb
theorem Hy {w : World} (hw : Holds B σ w) : Sub (joined σ) w := fun b o hb => by
 unfold joined at hb
 split at hb
 · rename_i h
   obtain ⟨h1, h2⟩ := Classical.choose_spec h
   have := (hw.own _ h1).1
   rw [h2] at this
   simp only [Option.some.injEq] at hb
   rw [this, hb]
 exact hw.sub b o hb
theorem QM {d : Option Nat} {g : FuncId} {f : Operand} {cs vs : List Value} {xs : List Operand} {at_ : Array TypeId} {R : Value → Heap → Prop} {v : Value} (hg : Body P g) (hf : ev e f = .func (.func g) #[] cs.toArray) (hx : Av e xs vs)
   (hok : ∀ G, σ.F.le G → (∀ p ∈ σ.H, G p.1 = some p.2) → Ok P g (vs ++ cs).toArray G R) (hR : ∀ u F', R u F' → u = v) : OpQ P n B ⟨d, .call ⟨.value f, xs.toArray, at_⟩, ty, pos, af, none⟩ e σ v := by
 intro a w ha hw
 unfold Oper.quietAt
 rw [ha.ev, E1 hg hf hx]
 refine ⟨rfl, (hok (joined σ) (GG hw) (fun p hp => Hz hw hp) w (Hy hw) (by simp) (by simp [keys])).mono fun r w' hq => ?_⟩
 obtain ⟨u, F', H', rfl, hg', hk, hH', hR'⟩ := hq
 refine ⟨by rw [hR u F' hR'], ?_⟩
 have hold : ∀ b, b < w.heap.size → w'.heap[b]? = w.heap[b]? := fun b hb => hg'.old b hb (by simp [keys])
 refine ⟨hg'.os.trans hw.os, hg'.tape.trans hw.tape, hg'.output.trans hw.output, Nat.le_trans hw.size hg'.size, fun b hb hM => ?_, fun b o hb => ?_, fun p hp => ?_, hw.nodup, hw.ext, hw.le, fun D hD => ?_, hw.dnodup⟩
 · rw [hold b (by have := hw.size; omega)]; exact hw.old b hb hM
 · have := hw.sub b o hb
   rw [hold b (Array.getElem?_eq_some_iff.1 this).1]; exact this
 · obtain ⟨h1, h2, h3⟩ := hw.own p hp
   exact ⟨by rw [hold _ (hw.lt hp)]; exact h1, h2, h3⟩
 obtain ⟨h1, h2⟩ := hw.marks D hD
 exact ⟨by rw [hold _ (Array.getElem?_eq_some_iff.1 h1).1]; exact h1, h2⟩
theorem Be {o : Oper} {v : Value} {K : Value → St → Prop} (h : OpQ P n B o e σ v) (hn : K v σ) : OpX P n B o e σ K := by
 intro a w ha hw next Qx hnext
 exact Oper.wp_of_quiet (C := Holds B σ) (K := fun a' => ∀ w', Holds B σ w' → next a' w') hw (fun a' w' hw' hK => hK w' hw') ⟨v, fun w' hw' => h a w' ha hw', fun w' hw' => hnext v σ w' hn hw'⟩
inductive Rv (P : Program) (e : Env) (σ : St) : List ResultVar → List Value → Prop
 | nil : Rv P e σ [] []
 | tmp {t : Nat} {v : Value} {rs : List ResultVar} {vs : List Value} : ev e (.tmp t) = v → Rv P e σ rs vs → Rv P e σ (.tmp t :: rs) (v :: vs)
 | one {t T : Nat} {a : Addr} {v : Value} {rs : List ResultVar} {vs : List Value} : OneT P T → ev e (.tmp t) = .pointer (some a) → Cell σ a v → Rv P e σ rs vs → Rv P e σ (.cell t T :: rs) (v :: vs)
 | agg {t T s : Nat} {a : Addr} {us : List Value} {rs : List ResultVar} {vs : List Value} : AggT P T s → ev e (.tmp t) = .pointer (some a) → us.length = s → a.spot = none → (∀ j v, us[j]? = some v → Cell σ (addc a j) v) →
     Rv P e σ rs vs → Rv P e σ (.cell t T :: rs) (.agg us.toArray :: vs)
def outOf : List Value → Value
 | [v] => v
 | vs => .tuple vs.toArray
theorem O2 {B' : Base} {a : Act} {w : World} (ha : Fits n B' a e) (hw : Holds B σ w) (f : ResultVar → Sem Value) (ft : ∀ t, f (.tmp t) = pure (a.tmps.getD t undef)) (fc : ∀ b T, f (.cell b T) = (asAddr (a.tmps.getD b undef) >>= fun ad => loadVar T ad)) :
   ∀ rs vs, Rv P e σ rs vs → (rs.mapM f : Sem (List Value)).run P w = .ok vs w := by
 intro rs vs h
 induction h with
 | nil => simp
 | @tmp t v rs vs h1 _ ih =>
   have h1' : a.tmps.getD t undef = v := by rw [ha.get]; exact h1
   rw [List.mapM_cons, ft, h1']
   simp only [Sem.run_bind, Sem.run_pure, Result.andThen_ok, ih]
 | @one t T ad v rs vs hT h1 hc _ ih =>
   have h1' : a.tmps.getD t undef = .pointer (some ad) := by rw [ha.get]; exact h1
   rw [List.mapM_cons, fc, h1']
   have hl : (loadVar T ad).run P w = .ok v w := by simp [loadVar, Ej hT, hc.get hw]
   have h2 : (asAddr (.pointer (some ad))).run P w = .ok ad w := rfl
   simp only [Sem.run_bind, h2, Sem.run_pure, Result.andThen_ok, hl, ih]
 | @agg t T s ad us rs vs hT h1 hl hs hc _ ih =>
   have h1' : a.tmps.getD t undef = .pointer (some ad) := by rw [ha.get]; exact h1
   rw [List.mapM_cons, fc, h1']
   subst hl
   have hl : (loadVar T ad).run P w = .ok (.agg us.toArray) w := by
     have := DO (P := P) (a := ad) (w := w) us 0 #[] (fun j v hj => by rw [Nat.zero_add, Cz hs]; exact (hc j v hj).get hw)
     simp [loadVar, QJ hT, BL hT.size, loadCells, this]
   have h2 : (asAddr (.pointer (some ad))).run P w = .ok ad w := rfl
   simp only [Sem.run_bind, h2, Sem.run_pure, Result.andThen_ok, hl, ih]
theorem FX {fn : Func} {rs : List ResultVar} {vs : List Value} (hr : fn.results = rs.toArray) (h : Rv P e σ rs vs) {B' : Base} {a : Act} {w : World} (ha : Fits n B' a e) (hw : Holds B σ w) :
   (results fn a.tmps).run P w = .ok (outOf vs) w := by
 unfold results
 rw [hr, List.mapM_toArray, Sem.run_bind, Sem.run_map, O2 ha hw _ (fun _ => rfl) (fun _ _ => rfl) rs vs h]
 simp only [Result.andThen_ok]
 match vs with
 | [] => rfl
 | [v] => rfl
 | v :: u :: vs => simp [outOf]
def PostE (P : Program) (fn : Func) (B : Base) (R : Value → Heap → List (Nat × Obj) → Prop) : Exit → Env → St → Prop
 | .normal, e, σ | .ret, e, σ => ∃ rs vs F' H', fn.results = List.toArray rs ∧ Rv P e σ rs vs ∧ (∀ ds w, Holds (B.at ds) σ w → Holds (B.at ds) ⟨F', H'⟩ w) ∧ keys H' = B.M ∧ R (outOf vs) F' H'
 | _, _, _ => False
theorem Holds.shut {D : Nat} {ds : List Nat} {w : World} (h : Holds (B.at (D :: ds)) σ w) : Holds (B.at ds) σ (w.putObj D (.deferred none)) := by
 obtain ⟨h1, h2, h3, h4⟩ := h.marks D (by simp [Base.at])
 have hd : (D :: ds).Nodup := h.dnodup
 rw [List.nodup_cons] at hd
 have hne : ∀ k, k ≠ D → (w.putObj D (.deferred none)).heap[k]? = w.heap[k]? := fun k hk => World.putObj_heap_other hk
 refine ⟨h.os, h.tape, h.output, by rw [World.putObj_size]; exact h.size, fun b hb hM => ?_, fun b o hb => ?_, fun p hp => ?_, h.nodup, h.ext, h.le, fun D' hD' => ?_, hd.2⟩
 · have h3' : B.w0.heap.size ≤ D := h3
   have hb' : b < B.w0.heap.size := hb
   rw [hne b (by omega)]; exact h.old b hb hM
 · rw [hne b (fun he => by rw [he, h2] at hb; cases hb)]; exact h.sub b o hb
 · obtain ⟨k1, k2, k3⟩ := h.own p hp
   exact ⟨by rw [hne _ (fun he => h4 (by rw [← he]; exact List.mem_map_of_mem hp))]; exact k1, k2, k3⟩
 obtain ⟨k1, k2⟩ := h.marks D' (List.mem_cons_of_mem _ hD')
 exact ⟨by rw [hne _ (fun he => hd.1 (by rw [← he]; exact hD'))]; exact k1, k2⟩
theorem GE {fn : Func} {tmps : Array Value} {R : Ending → World → Prop} {B : Base} {σ : St} : ∀ (ds : List Nat) (w : World), Holds (B.at ds) σ w →
   (∀ w', Holds (B.at []) σ w' → ∃ v, (results fn tmps).run P w' = .ok v w' ∧ R (.returned v) w') → LeavesInM (fence none) 0 P fn tmps R (ds.map mark) .returning w
 | [], w, h, hr => hr w h
 | D :: ds, w, h, hr => ⟨by simp, .inl ⟨D, _, rfl, run_takeDeferred (h.marks D (by simp [Base.at])).1, GE ds _ h.shut hr⟩⟩
theorem OkM.intro {f : FuncId} {fn : Func} {c : Code} {args : List Value} {F : Heap} {H : List (Nat × Obj)} {R : Value → Heap → List (Nat × Obj) → Prop} (hf : P.funcs[f]? = some fn) (hb : fn.body = some c) (hn : fn.ntmps = n) (hsz : Nat.ble args.length n = true)
   (h : ∀ w, WC P n ⟨w, keys H, F, [], none⟩ c (PostE P fn ⟨w, keys H, F, [], none⟩ R) (fun t => args.getD t undef) ⟨F, H⟩) : OkM P f args.toArray F H R := by
 intro w hs hH hnd
 refine (callsIn_wide (n := 0)).1 (callsIn_of_wp_marks (F := fence none) hf hb trivial (wpIn_mono (h w [] _ _ ?_ ?_) fun x a' w' hq => ?_))
 · refine ⟨?_, rfl, fun t => ?_⟩
   · have : args.length ≤ n := by simpa using hsz
     simp [hn]; omega
   have hl : args.length ≤ n := by simpa using hsz
   by_cases ht : t < args.length
   · simp [Array.getElem?_append_left, ht]
   simp only [Array.getD_eq_getD_getElem?, List.getD_eq_getElem?_getD]
   rw [Array.getElem?_append_right (by simp; omega), List.getElem?_eq_none (by omega)]
   simp only [List.size_toArray, Array.getElem?_replicate]
   split <;> rfl
 · exact ⟨rfl, rfl, rfl, Nat.le_refl _, fun _ _ _ => rfl, hs, fun p hp => ⟨(hH p hp).1, (hH p hp).2, .inr (List.mem_map_of_mem hp)⟩, hnd, fun _ _ => rfl, Heap.le_refl _, (fun D hD => nomatch hD), List.nodup_nil⟩
 obtain ⟨ds, e', σ', h1, h2, h3⟩ := hq
 have fin : ∀ rs vs F' H', fn.results = List.toArray rs → Rv P e' σ' rs vs → (∀ ds w2, Holds (Base.at ⟨w, keys H, F, [], none⟩ ds) σ' w2 → Holds (Base.at ⟨w, keys H, F, [], none⟩ ds) ⟨F', H'⟩ w2) → keys H' = keys H → R (outOf vs) F' H' →
     LeavesInM (fence none) 0 P fn a'.tmps (fun r w' => ∃ v F' H', r = .returned v ∧ Grow w F (keys H) w' F' ∧ keys H' = keys H ∧ (∀ p ∈ H', w'.heap[p.1]? = some p.2) ∧ R v F' H') a'.defers .returning w' := by
   intro rs vs F' H' q1 q2 q3 q4 q5
   rw [h1.defers]
   refine GE (B := ⟨w, keys H, F, [], none⟩) ds w' h2 fun w2 hw2 => ?_
   have h2' := q3 [] w2 hw2
   exact ⟨_, FX q1 q2 h1 hw2, _, F', H', rfl, ⟨h2'.os, h2'.tape, h2'.output, h2'.size, h2'.old, h2'.le, h2'.sub, h2'.ext⟩, q4, fun p hp => (h2'.own p hp).1, q5⟩
 cases x with
 | normal => obtain ⟨rs, vs, F', H', q1, q2, q3, q4, q5⟩ := h3; exact fin rs vs F' H' q1 q2 q3 q4 q5
 | ret => obtain ⟨rs, vs, F', H', q1, q2, q3, q4, q5⟩ := h3; exact fin rs vs F' H' q1 q2 q3 q4 q5
 | exit id => exact h3.elim
 | goto l => exact h3.elim
 | panic ch => exact h3.elim
 | outgrown => exact h3.elim
theorem Ok.intro {f : FuncId} {fn : Func} {c : Code} {args : List Value} {F : Heap} {R : Value → Heap → Prop} (hf : P.funcs[f]? = some fn) (hb : fn.body = some c) (hn : fn.ntmps = n) (hsz : Nat.ble args.length n = true)
   (h : ∀ w, WC P n ⟨w, [], F, [], none⟩ c (PostE P fn ⟨w, [], F, [], none⟩ fun v F' _ => R v F') (fun t => args.getD t undef) ⟨F, []⟩) : Ok P f args.toArray F R :=
 OkM.intro hf hb hn hsz h
theorem Holds.drop {w : World} (h : Holds B σ w) {H' : List (Nat × Obj)} (hs : H'.Sublist σ.H) : Holds B ⟨σ.F, H'⟩ w :=
 ⟨h.os, h.tape, h.output, h.size, h.old, h.sub, fun p hp => h.own p (hs.subset hp), h.nodup.sublist (hs.map _), h.ext, h.le, fun D hD => let ⟨k1, k2, k3, k4⟩ := h.marks D hD; ⟨k1, k2, k3, fun hm => k4 ((hs.map _).subset hm)⟩, h.dnodup⟩
theorem Ap {fn : Func} {R : Value → Heap → List (Nat × Obj) → Prop} {rs : List ResultVar} {vs : List Value} {w0 : World} {F0 : Heap} (hr : fn.results = rs.toArray) (hv : Rv P e σ rs vs) (hR : R (outOf vs) σ.F []) :
   PostE P fn ⟨w0, [], F0, [], none⟩ R .ret e σ := ⟨rs, vs, σ.F, [], hr, hv, fun _ _ h => h.drop (List.nil_sublist _), rfl, hR⟩
def grown (F : Heap) (b : Nat) (o : Obj) : Heap := fun k => if k = b then some o else F k
theorem Dn {F : Heap} {b : Nat} {o : Obj} : grown F b o b = some o := by simp [grown]
theorem DW {F : Heap} {b : Nat} {o : Obj} (h : F b = none) : F.le (grown F b o) := fun k u hk => by
 unfold grown
 split
 · rename_i he; subst he; rw [h] at hk; cases hk
 exact hk
theorem Holds.freeze {w : World} (h : Holds B σ w) {i b : Nat} {o : Obj} (hi : σ.H[i]? = some (b, o)) (hb : B.w0.heap.size ≤ b) : Holds B ⟨grown σ.F b o, σ.H.eraseIdx i⟩ w := by
 have hm : (b, o) ∈ σ.H := List.mem_of_getElem? hi
 obtain ⟨h1, h2, h3⟩ := h.own _ hm
 refine ⟨h.os, h.tape, h.output, h.size, h.old, ?_, ?_, h.nodup.sublist ((List.eraseIdx_sublist _ _).map _), ?_, Heap.le_trans h.le (DW h2), fun D hD => ?_, h.dnodup⟩
 · intro k u hk
   replace hk : (if k = b then some o else σ.F k) = some u := hk
   split at hk
   · rename_i he; subst he; simp only [Option.some.injEq] at hk; subst hk; exact h1
   exact h.sub k u hk
 · intro p hp
   have hp' : p ∈ σ.H := (List.eraseIdx_sublist _ _).subset hp
   obtain ⟨q1, q2, q3⟩ := h.own p hp'
   have hne : p.1 ≠ b := by
     intro he
     obtain ⟨j, hj, hij⟩ : ∃ j, σ.H[j]? = some p ∧ j ≠ i := by
       obtain ⟨j, hj⟩ := List.getElem?_of_mem hp
       rw [List.getElem?_eraseIdx] at hj
       split at hj
       · exact ⟨j, hj, by omega⟩
       exact ⟨j + 1, hj, by omega⟩
     have e1 : (σ.H.map (·.1))[i]? = some b := by simp [hi]
     have e2 : (σ.H.map (·.1))[j]? = some b := by simp [hj, he]
     have hjl : j < (σ.H.map (·.1)).length := (List.getElem?_eq_some_iff.1 e2).1
     exact hij ((List.getElem?_inj hjl h.nodup).1 (by rw [e1, e2]))
   exact ⟨q1, by show grown σ.F b o p.1 = none; simp [grown, hne, q2], q3⟩
 · intro k hk
   have : k ≠ b := by omega
   show grown σ.F b o k = _
   simp only [grown, this, if_false]; exact h.ext k hk
 obtain ⟨k1, k2, k3, k4⟩ := h.marks D hD
 have hne : D ≠ b := fun he => k4 (by rw [he]; exact List.mem_map_of_mem hm)
 exact ⟨k1, by show grown σ.F b o D = none; simp [grown, hne, k2], k3, fun hm' => k4 (((List.eraseIdx_sublist _ _).map _).subset hm')⟩
theorem Wd {ops : Array Oper} {Q : Exit → Env → St → Prop} {l : List Oper} {σ' : St} (hs : ∀ w, Holds B σ w → Holds B σ' w) (h : WL P n B ops Q l e σ') : WL P n B ops Q l e σ := fun a w ha hw => h a w ha (hs w hw)
theorem Bn {Q : Exit → Env → St → Prop} {c : Code} {σ' : St} (hs : ∀ ds w, Holds (B.at ds) σ w → Holds (B.at ds) σ' w) (h : WC P n B c Q e σ') : WC P n B c Q e σ := fun ds a w ha hw => h ds a w ha (hs ds w hw)
theorem Jz {Q : Exit → Env → St → Prop} {c : Code} {e' : Env} {σ' : St} (he : e' = e) (hs : σ' = σ) (h : WC P n B c Q e' σ') : WC P n B c Q e σ := by subst he; subst hs; exact h
theorem AJ {ops : Array Oper} {Q : Exit → Env → St → Prop} {l : List Oper} {i b : Nat} {o : Obj} {H' : List (Nat × Obj)} (hi : σ.H[i]? = some (b, o)) (hb : B.w0.heap.size ≤ b) (hH : DelL σ.H i H')
   (h : ∀ F', σ.F.le F' → F' b = some o → WL P n B ops Q l e ⟨F', H'⟩) : WL P n B ops Q l e σ := by
 intro a w ha hw
 have h2 := (hw.own _ (List.mem_of_getElem? hi)).2.1
 rw [hH.eq] at h
 exact h _ (DW h2) Dn a w ha (hw.freeze hi hb)
theorem AK {c : Code} {Q : Exit → Env → St → Prop} {i b : Nat} {o : Obj} {H' : List (Nat × Obj)} (hi : σ.H[i]? = some (b, o)) (hb : B.w0.heap.size ≤ b) (hH : DelL σ.H i H')
   (h : ∀ F', σ.F.le F' → F' b = some o → WC P n B c Q e ⟨F', H'⟩) : WC P n B c Q e σ := by
 intro ds a w ha hw
 have h2 := (hw.own _ (List.mem_of_getElem? hi)).2.1
 rw [hH.eq] at h
 exact h _ (DW h2) Dn ds a w ha (hw.freeze hi hb)
def CellF (F : Heap) (a : Addr) (v : Value) : Prop := a.spot = none ∧ ∃ c T fr, F a.block = some (.cells c T fr) ∧ c[a.off]? = some v
theorem CellF.cell {F : Heap} {H : List (Nat × Obj)} {a : Addr} {v : Value} (h : CellF F a v) : Cell ⟨F, H⟩ a v := by
 obtain ⟨hs, c, T, fr, h1, h2⟩ := h; exact ⟨hs, c, T, fr, .inl h1, h2⟩
theorem CellF.mono {F F' : Heap} {a : Addr} {v : Value} (h : CellF F a v) (hF : F.le F') : CellF F' a v := by
 obtain ⟨hs, c, T, fr, h1, h2⟩ := h; exact ⟨hs, c, T, fr, hF _ _ h1, h2⟩
theorem Cell.own {F : Heap} {H : List (Nat × Obj)} {b k T : Nat} {l : List Value} {v : Value} (i : Nat) (hi : H[i]? = some (b, bx T l)) (hc : l[k]? = some v) : Cell ⟨F, H⟩ ⟨b, k, none⟩ v :=
 ⟨rfl, l.toArray, T, (0, 0), .inr (List.mem_of_getElem? hi), by simpa using hc⟩
theorem Bz {F : Heap} {H : List (Nat × Obj)} {b T : Nat} {l : List Value} (i : Nat) (hi : H[i]? = some (b, bx T l)) : ∀ j v, l[j]? = some v → Cell ⟨F, H⟩ (addc ⟨b, 0, none⟩ j) v := fun j v hj => by
 have : addc (⟨b, 0, none⟩ : Addr) j = ⟨b, j, none⟩ := by simp [addc]
 rw [this]; exact Cell.own i hi hj
theorem CellF.own {F : Heap} {b k T : Nat} {l : List Value} {v : Value} (hi : F b = some (bx T l)) (hc : l[k]? = some v) : CellF F ⟨b, k, none⟩ v :=
 ⟨rfl, l.toArray, T, (0, 0), hi, by simpa using hc⟩
theorem Ba {F : Heap} {H : List (Nat × Obj)} {b T : Nat} {l : List Value} (hi : F b = some (bx T l)) : ∀ j v, l[j]? = some v → Cell ⟨F, H⟩ (addc ⟨b, 0, none⟩ j) v := fun j v hj => by
 have : addc (⟨b, 0, none⟩ : Addr) j = ⟨b, j, none⟩ := by simp [addc]
 rw [this]; exact (CellF.own hi hj).cell
structure Sl {α : Type} (F : Heap) (v : Value) (s : Nat) (enc : α → List Value) (xs : List α) : Prop where
 plain : Plain v xs.length
 cells : ∀ i (hi : i < xs.length) j u, (enc xs[i])[j]? = some u → CellF F (addc (base v) (i * s + j)) u
theorem Sl.mono {α : Type} {F F' : Heap} {v : Value} {s : Nat} {enc : α → List Value} {xs : List α} (h : Sl F v s enc xs) (hF : F.le F') : Sl F' v s enc xs :=
 ⟨h.plain, fun i hi j u hu => (h.cells i hi j u hu).mono hF⟩
theorem Sl.nil {α : Type} {F : Heap} {s : Nat} {enc : α → List Value} : Sl F (.slice none 0 0) s enc ([] : List α) := ⟨Mz, fun i hi => absurd hi (by simp)⟩
theorem Sl.cell {α : Type} {F : Heap} {H : List (Nat × Obj)} {v : Value} {s : Nat} {enc : α → List Value} {xs : List α} (h : Sl F v s enc xs) {i j : Nat} {u : Value} (hi : i < xs.length) (hu : (enc xs[i])[j]? = some u) :
   Cell ⟨F, H⟩ (addc (base v) (i * s + j)) u := (h.cells i hi j u hu).cell
theorem Sl.cell1 {α : Type} {F : Heap} {H : List (Nat × Obj)} {v : Value} {enc : α → List Value} {xs : List α} (h : Sl F v 1 enc xs) {i : Nat} {u : Value} (hi : i < xs.length) (hu : (enc xs[i])[0]? = some u) :
   Cell ⟨F, H⟩ (addc (base v) (i * 1)) u := (h.cells i hi 0 u hu).cell
theorem Sl.whole {α : Type} {F : Heap} {H : List (Nat × Obj)} {v : Value} {s : Nat} {enc : α → List Value} {xs : List α} (h : Sl F v s enc xs) {i : Nat} (hi : i < xs.length) :
   ∀ j u, (enc xs[i])[j]? = some u → Cell ⟨F, H⟩ (addc (addc (base v) (i * s)) j) u := fun j u hu => by
 rw [DM]; exact h.cell hi hu
theorem Sl.part {α : Type} {F : Heap} {H : List (Nat × Obj)} {v : Value} {s : Nat} {enc : α → List Value} {xs : List α} (h : Sl F v s enc xs) {i off : Nat} (hi : i < xs.length) {us rest : List Value} (hd : (enc xs[i]).drop off = us ++ rest) :
   ∀ j u, us[j]? = some u → Cell ⟨F, H⟩ (addc (addc (base v) (i * s + off)) j) u := fun j u hu => by
 rw [DM, Nat.add_assoc]
 refine h.cell hi ?_
 have h1 := (List.getElem?_eq_some_iff.1 hu).1
 have : ((enc xs[i]).drop off)[j]? = some u := by rw [hd, List.getElem?_append_left h1]; exact hu
 rwa [List.getElem?_drop] at this
theorem Sl.sub {α : Type} {F : Heap} {v : Value} {s : Nat} {enc : α → List Value} {xs : List α} (h : Sl F v s enc xs) {lo hi : Nat} (h1 : lo ≤ hi) (h2 : hi ≤ xs.length) : Sl F (subslice v lo hi s) s enc ((xs.take hi).drop lo) := by
 have hl : ((xs.take hi).drop lo).length = hi - lo := by simp; omega
 refine ⟨by rw [hl]; exact Ss h.plain h1 h2, fun i hi' j u hu => ?_⟩
 rw [hl] at hi'
 rw [VP h.plain (by omega) h2, DM]
 have : ((xs.take hi).drop lo)[i]'(by omega) = xs[lo + i]'(by omega) := by simp
 rw [this] at hu
 have := h.cells (lo + i) (by omega) j u hu
 rwa [Nat.add_mul, Nat.add_assoc] at this
theorem Sl.to {α : Type} {F : Heap} {v : Value} {s : Nat} {enc : α → List Value} {xs : List α} (h : Sl F v s enc xs) {k : Nat} (hk : k ≤ xs.length) : Sl F (subslice v 0 k s) s enc (xs.take k) := by
 have := h.sub (Nat.zero_le k) hk
 simpa using this
theorem Sl.from {α : Type} {F : Heap} {v : Value} {s : Nat} {enc : α → List Value} {xs : List α} (h : Sl F v s enc xs) {k : Nat} (hk : k ≤ xs.length) : Sl F (subslice v k xs.length s) s enc (xs.drop k) := by
 have := h.sub hk (Nat.le_refl _)
 simpa using this
theorem Sl.box {α : Type} {F : Heap} {b T s n c : Nat} {l : List Value} {enc : α → List Value} {xs : List α} (hF : F b = some (bx T l)) (hn : xs.length = n) (hc : n ≤ c) (hb : n < 281474976710656) (hl : ∀ i (hi : i < xs.length) j u, (enc xs[i])[j]? = some u → l[i * s + j]? = some u) : Sl F (.slice (some ⟨b, 0, none⟩) n c) s enc xs := by
 subst hn
 refine ⟨⟨_, _, rfl, fun _ x hx => by cases hx; rfl, by simp, hc, hb⟩, fun i hi j u hu => ?_⟩
 have := hl i hi j u hu
 exact ⟨rfl, l.toArray, T, (0, 0), hF, by simpa [base, addc] using this⟩
@[reducible] def intE (z : Int) : List Value := [.int .i64 z]
@[reducible] def strE (s : ByteArray) : List Value := [.string s]
abbrev Ints (F : Heap) (v : Value) (xs : List Int) : Prop := Sl F v 1 intE xs
theorem Bh {F : Heap} {b T : Nat} {x : Int} (h : F b = some (bx T [.int .i64 x])) : Ints F (.slice (some ⟨b, 0, none⟩) 1 1) [x] :=
 Sl.box h rfl (by omega) (by omega) fun i hi j u hu => by
   have : i = 0 := by simpa using hi
   subst this
   match j, hu with
   | 0, hu => simpa [intE] using hu
   | j + 1, hu => simp [intE] at hu
theorem BW {F : Heap} {b T : Nat} {x y : Int} (h : F b = some (bx T [.int .i64 x, .int .i64 y])) : Ints F (.slice (some ⟨b, 0, none⟩) 2 2) [x, y] :=
 Sl.box h rfl (by omega) (by omega) fun i hi j u hu => by
   match j, hu with
   | 0, hu =>
     match i, hi with
     | 0, _ => simpa [intE] using hu
     | 1, _ => simpa [intE] using hu
   | j + 1, hu => simp [intE] at hu
theorem Sl.int {F : Heap} {H : List (Nat × Obj)} {v : Value} {xs : List Int} (h : Ints F v xs) {i : Nat} (hi : i < xs.length) : Cell ⟨F, H⟩ (addc (base v) (i * 1)) (.int .i64 xs[i]) := h.cell1 hi rfl
end
end
section
open Go.RowKit
section
variable {P : Program} {n : Nat} {B : Base} {e : Env} {σ : St} {d : Option Nat} {ty : TypeId} {pos : String} {af : Array Edge} {gd : Option (Nat × Bool)}
theorem Bt {fn : Fn} {xs : List Operand} {vs : List Value} (hx : Av e xs vs) : OpR P B ⟨d, .makeFunc fn #[] xs.toArray, ty, pos, af, gd⟩ e σ (.func fn #[] vs.toArray) := fun w _ => by
 have := hx.map
 simp [execOp, Instr.makeFunc, this]
theorem Lg {x y : Operand} {a b c : Int} {k : Nat} {t u : TypeId} {kd : IntKind} (hx : ev e x = .int .i64 a) (hy : ev e y = .int kd b) (hb : b = (k : Int)) (hk : k < 64) (hc : a * 2 ^ k = c) (h1 : -9223372036854775808 ≤ c) (h2 : c ≤ 9223372036854775807) :
   OpR P B ⟨d, .binOp .shl t x y u, ty, pos, af, gd⟩ e σ (.int .i64 c) := fun w _ => by
 subst hb; subst hc
 have hm : min k IntKind.i64.bits = k := by simp [IntKind.bits]; omega
 have hn : ¬ ((k : Int) < 0) := by omega
 have hs : Op.shift .shl .i64 a kd (k : Int) = pure (.int .i64 (IntKind.i64.wrap (a * 2 ^ k))) := by unfold Op.shift; rw [if_neg hn]; simp only [Int.toNat_natCast, hm]
 simp only [execOp, hx, hy, eqGuard, binOp, hs]
 simp [EJ h1 h2]
theorem FM {x y : Operand} {a b c : Int} {k : Nat} {t u : TypeId} {ka kd : IntKind} (hx : ev e x = .int ka a) (hy : ev e y = .int kd b) (hb : b = (k : Int)) (hk : k < ka.bits) (hc : a / 2 ^ k = c) :
   OpR P B ⟨d, .binOp .shr t x y u, ty, pos, af, gd⟩ e σ (.int ka c) := fun w _ => by
 subst hb; subst hc
 have hm : min k ka.bits = k := by omega
 have hn : ¬ ((k : Int) < 0) := by omega
 have hf : a.fdiv (2 ^ k) = a / 2 ^ k := Int.fdiv_eq_ediv_of_nonneg a (by have : (0 : Int) < 2 ^ k := Int.pow_pos (by omega); omega)
 simp [execOp, hx, hy, eqGuard, binOp, Op.shift, hm, hn, hf]
inductive PutL : List Value → Nat → List Value → List Value → Prop
 | nil {l : List Value} {k : Nat} : PutL l k [] l
 | cons {l l1 l' : List Value} {k : Nat} {c : Value} {cs : List Value} : SetL l k c l1 → PutL l1 (k + 1) cs l' → PutL l k (c :: cs) l'
theorem PutL.fold {l l' : List Value} {k : Nat} {cs : List Value} (h : PutL l k cs l') : ∀ j0, k = k - j0 + j0 → j0 ≤ k → (cs.zipIdx j0).foldl (fun acc (p : Value × Nat) => acc.setIfInBounds (k - j0 + p.2) p.1) l.toArray = l'.toArray ∧ l'.length = l.length ∧ (cs ≠ [] → k + cs.length ≤ l.length) := by
 induction h with
 | nil => intro j0 _ _; simp
 | @cons l l1 l' k c cs hs _ ih =>
   intro j0 h1 h2
   obtain ⟨e1, e2⟩ := hs.eq
   obtain ⟨i1, i2, i3⟩ := ih (j0 + 1) (by omega) (by omega)
   refine ⟨?_, by rw [i2, e1]; simp, fun _ => ?_⟩
   · simp only [List.zipIdx_cons, List.foldl_cons]
     have : (l.toArray.setIfInBounds (k - j0 + j0) c) = l1.toArray := by rw [e1, ← h1]; simp
     rw [this, ← i1, show k + 1 - (j0 + 1) = k - j0 from by omega]
   by_cases hc : cs = []
   · subst hc; simp; omega
   have := i3 hc; rw [e1] at this; simp at this ⊢; omega
inductive FillL (offs : List (Nat × Nat)) : List Value → List (Nat × List Value) → List Value → Prop
 | nil {l : List Value} : FillL offs l [] l
 | cons {l l1 l' cs : List Value} {i off s : Nat} {ps : List (Nat × List Value)} : offs[i]? = some (off, s) → cs.length = s → off + s ≤ l.length → PutL l off cs l1 → FillL offs l1 ps l' → FillL offs l ((i, cs) :: ps) l'
theorem FillL.fill {offs : List (Nat × Nat)} {place : Nat → Option (Nat × Nat)} (hp : ∀ i p, offs[i]? = some p → place i = some p) {l l' : List Value} {ps : List (Nat × List Value)} (h : FillL offs l ps l') :
   ∀ vs : List (Nat × Value), vs.map (fun p => (p.1, p.2.cells.toList)) = ps → Instr.fill place l.toArray vs = some l'.toArray := by
 induction h with
 | nil => intro vs hv; simp at hv; subst hv; rfl
 | @cons l l1 l' cs i off s ps h1 h2 h3 h4 _ ih =>
   intro vs hv
   match vs, hv with
   | (j, v) :: vs, hv =>
     simp only [List.map_cons, List.cons.injEq, Prod.mk.injEq] at hv
     obtain ⟨⟨rfl, hc⟩, hvs⟩ := hv
     have hc' : v.cells = cs.toArray := by rw [← hc]
     obtain ⟨f1, -, -⟩ := h4.fold 0 (by omega) (by omega)
     unfold Instr.fill
     rw [hp _ _ h1]
     simp only [hc', List.size_toArray, h2, ne_eq, not_true_eq_false, decide_false, Bool.false_or, decide_eq_true_eq]
     rw [if_neg (by omega)]
     have hz : cs.toArray.zipIdx.foldl (fun (x : Array Value) (p : Value × Nat) => x.setIfInBounds (off + p.2) p.1) l.toArray = l1.toArray := by
       rw [← f1]; simp
     have hz' : cs.toArray.zipIdx.foldl (fun x x_1 => match x_1 with | (c, j) => x.setIfInBounds (off + j) c) l.toArray = l1.toArray := hz
     rw [hz']
     exact ih vs hvs
def BuildT (P : Program) (T : Nat) (zl : List Value) (offs : List (Nat × Nat)) : Prop :=
 ∃ fs z, P.underlying T = some (.struct fs) ∧ ZeroT P T z ∧ z.cells = zl.toArray ∧ fs.toList.map (fun f => (f.offset, (P.info? f.type).map (·.size))) = offs.map fun p => (p.1, some p.2)
theorem BD {T : Nat} {zl : List Value} {offs : List (Nat × Nat)} (hz : ZeroT P T (.agg zl.toArray)) (h : (P.underlying T).map (fun td => match td with | .struct fs => fs.toList.map (fun f => (f.offset, (P.info? f.type).map (·.size))) | _ => []) = some (offs.map fun p => (p.1, some p.2))) (hne : offs ≠ []) : BuildT P T zl offs := by
 cases hu : P.underlying T with
 | none => rw [hu] at h; simp at h
 | some td =>
   rw [hu] at h
   simp only [Option.map_some, Option.some.injEq] at h
   cases td with
   | struct fs => exact ⟨fs, _, hu, hz, rfl, h⟩
   | _ => exact absurd (List.map_eq_nil_iff.1 h.symm) hne
theorem KW {w : World} : ∀ (fs : List Field) (offs : List (Nat × Nat)), fs.map (fun f => (f.offset, (P.info? f.type).map (·.size))) = offs.map (fun p => (p.1, some p.2)) →
   (fs.mapM fun f => do pure (f.offset, ← Go.sizeOf f.type) : Sem (List (Nat × Nat))).run P w = .ok offs w
 | [], [], _ => by simp
 | [], _ :: _, h => by simp at h
 | _ :: _, [], h => by simp at h
 | f :: fs, p :: offs, h => by
   simp only [List.map_cons, List.cons.injEq, Prod.mk.injEq] at h
   obtain ⟨⟨h1, h2⟩, h3⟩ := h
   have hs := BL (P := P) (T := f.type) (s := p.2) (by
     cases hi : P.info? f.type with
     | none => rw [hi] at h2; simp at h2
     | some i => rw [hi] at h2; exact ⟨i, hi, by simpa using h2⟩)
   rw [List.mapM_cons]
   simp only [Sem.run_bind, hs, Result.andThen_ok, Sem.run_pure, KW fs offs h3, h1]
inductive Pv (e : Env) : List (Nat × Operand) → List (Nat × List Value) → Prop
 | nil : Pv e [] []
 | cons {i : Nat} {x : Operand} {xs : List (Nat × Operand)} {v : Value} {cs : List Value} {ps : List (Nat × List Value)} : ev e x = v → v.cells = cs.toArray → Pv e xs ps → Pv e ((i, x) :: xs) ((i, cs) :: ps)
theorem Pv.map {xs : List (Nat × Operand)} {ps : List (Nat × List Value)} (h : Pv e xs ps) : (xs.map fun (p : Nat × Operand) => (p.1, ev e p.2)).map (fun p => (p.1, p.2.cells.toList)) = ps := by
 induction h with
 | nil => rfl
 | cons h1 h2 _ ih => simp only [List.map_cons, h1, h2, ih]
theorem Bm {T : Nat} {zl l : List Value} {offs : List (Nat × Nat)} {xs : List (Nat × Operand)} {ps : List (Nat × List Value)} (hT : BuildT P T zl offs) (hx : Pv e xs ps) (hf : FillL offs zl ps l) :
   OpR P B ⟨d, .build T xs.toArray, ty, pos, af, gd⟩ e σ (.agg l.toArray) := fun w _ => by
 obtain ⟨fs, z, h1, h2, h3, h4⟩ := hT
 have hp := KW (P := P) (w := w) fs.toList offs h4
 have hp' : (fs.mapM fun f => do pure (f.offset, ← Go.sizeOf f.type) : Sem (Array (Nat × Nat))).run P w = .ok offs.toArray w := by
   have : (fs.mapM fun f => do pure (f.offset, ← Go.sizeOf f.type) : Sem (Array (Nat × Nat))) = (fs.toList.toArray.mapM fun f => do pure (f.offset, ← Go.sizeOf f.type)) := by simp
   rw [this, List.mapM_toArray, Sem.run_map, hp]; rfl
 have hfill := hf.fill (place := fun i => offs.toArray[i]?) (fun i p hi => by simpa using hi) (xs.map fun (p : Nat × Operand) => (p.1, ev e p.2)) hx.map
 simp only [execOp, Instr.build, Sem.run_bind, E0 h2, Result.andThen_ok, h3, Bo h1, hp']
 simp only [List.map_toArray, List.toList_toArray] at *
 have e1 : (xs.map fun x => match x with | (i, x) => (i, ev e x)) = xs.map fun (p : Nat × Operand) => (p.1, ev e p.2) := by
   apply List.map_congr_left; intro p _; rfl
 rw [e1, hfill]
 rfl
theorem q_field {T f off : Nat} {x : Operand} {l : List Value} {v : Value} {ft : Nat} (hT : ∃ fs fd, P.underlying T = some (.struct fs) ∧ fs[f]? = some fd ∧ fd.offset = off ∧ fd.type = ft) (h1 : OneT P ft) (hx : ev e x = .agg l.toArray) (hv : l[off]? = some v) :
   OpR P B ⟨d, .field T x f, ty, pos, af, gd⟩ e σ v := fun w _ => by
 obtain ⟨fs, fd, e1, e2, e3, e4⟩ := hT
 subst e3; subst e4
 have : l.toArray[fd.offset]? = some v := by simpa using hv
 simp [execOp, hx, Instr.field, Bo e1, e2, part, Ej h1, asAgg, hv]
def Own (E s : Nat) (v : Value) (k : Nat) (cs : List Value) : List (Nat × Obj) → Prop
 | [] => v = .slice none 0 0 ∧ k = 0 ∧ cs = []
 | [(b, o)] => ∃ cap spare, v = .slice (some ⟨b, 0, none⟩) k cap ∧ o = bx E (cs ++ spare) ∧ cs.length = k * s ∧ (cs ++ spare).length = cap * s ∧ k ≤ cap
 | _ => False
theorem BZ {E s : Nat} : Own E s (.slice none 0 0) 0 [] [] := ⟨rfl, rfl, rfl⟩
theorem Own.plain {E s k : Nat} {v : Value} {cs : List Value} {R : List (Nat × Obj)} (h : Own E s v k cs R) (hk : k < 281474976710656) : Plain v k := by
 match R, h with
 | [], h => obtain ⟨rfl, rfl, -⟩ := h; exact Mz
 | [(b, o)], h =>
   obtain ⟨cap, spare, rfl, -, -, -, h5⟩ := h
   exact ⟨_, _, rfl, fun _ x hx => by cases hx; rfl, (by simp), h5, hk⟩
theorem Own.one {E s k : Nat} {v : Value} {cs : List Value} {R : List (Nat × Obj)} (h : Own E s v k cs R) : v.oneCell' = true := by
 match R, h with
 | [], h => obtain ⟨rfl, -, -⟩ := h; rfl
 | [(b, o)], h => obtain ⟨cap, spare, rfl, -⟩ := h; rfl
theorem Own.cell {E s k : Nat} {v : Value} {cs : List Value} {R H : List (Nat × Obj)} {F : Heap} (h : Own E s v k cs R) (hR : ∀ p ∈ R, p ∈ H) {i : Nat} {u : Value} (hi : cs[i]? = some u) : Cell ⟨F, H⟩ (addc (base v) i) u := by
 match R, h with
 | [], h => obtain ⟨-, -, rfl⟩ := h; simp at hi
 | [(b, o)], h =>
   obtain ⟨cap, spare, rfl, rfl, -⟩ := h
   have hl := (List.getElem?_eq_some_iff.1 hi).1
   refine ⟨rfl, (cs ++ spare).toArray, E, (0, 0), .inr (hR (b, bx E (cs ++ spare)) (by simp)), ?_⟩
   simp [base, addc, List.getElem?_append_left hl, hi]
theorem GA {E s k b : Nat} {l : List Value} (h : l.length = k * s) : Own E s (.slice (some ⟨b, 0, none⟩) k k) k l [(b, bx E l)] :=
 ⟨k, [], rfl, by simp, h, by simpa using h, Nat.le_refl _⟩
theorem Own.sl {α : Type} {E s : Nat} {v : Value} {enc : α → List Value} {xs : List α} {R : List (Nat × Obj)} {G : Heap} (h : Own E s v xs.length (xs.flatMap enc) R) (hs : ∀ x, (enc x).length = s) (hG : ∀ p ∈ R, G p.1 = some p.2) (hl : xs.length < 281474976710656) : Sl G v s enc xs := by
 refine ⟨h.plain hl, fun i hi j u hu => ?_⟩
 have key : ∀ (l : List α) (i : Nat) (hi : i < l.length), (enc l[i])[j]? = some u → (l.flatMap enc)[i * s + j]? = some u := by
   intro l
   induction l with
   | nil => intro i hi; simp at hi
   | cons x l ih =>
     intro i hi hu
     rw [List.flatMap_cons]
     cases i with
     | zero =>
       replace hu : (enc x)[j]? = some u := hu
       have hj := (List.getElem?_eq_some_iff.1 hu).1
       rw [Nat.zero_mul, Nat.zero_add, List.getElem?_append_left hj]; exact hu
     | succ i =>
       rw [List.getElem?_append_right (by rw [hs, Nat.add_mul]; omega), hs, show (i + 1) * s + j - s = i * s + j from by rw [Nat.add_mul]; omega]
       exact ih i (by simpa using hi) (by simpa using hu)
 have hc := key xs i hi hu
 match R, h with
 | [], h => obtain ⟨-, h2, -⟩ := h; omega
 | [(b, o)], h =>
   obtain ⟨cap, spare, rfl, rfl, -⟩ := h
   have hl := (List.getElem?_eq_some_iff.1 hc).1
   refine ⟨rfl, (xs.flatMap enc ++ spare).toArray, E, (0, 0), hG (b, bx E (xs.flatMap enc ++ spare)) (by simp), ?_⟩
   simp [base, addc, List.getElem?_append_left hl, hc]
theorem Own.snoc {α : Type} {E s k : Nat} {v : Value} {enc : α → List Value} {xs : List α} {x : α} {cs : List Value} {R : List (Nat × Obj)} (h : Own E s v (k + 1) (xs.flatMap enc ++ cs) R) (hk : xs.length = k) (hc : enc x = cs) : Own E s v (xs ++ [x]).length ((xs ++ [x]).flatMap enc) R := by
 subst hk; subst hc
 simpa using h
theorem Own.nil {α : Type} {E s : Nat} {enc : α → List Value} : Own E s (.slice none 0 0) ([] : List α).length (([] : List α).flatMap enc) [] := BZ
inductive Repl {α : Type} (R R' : List α) : List α → List α → Prop
 | last : Repl R R' R R'
 | here {C : List α} : Repl R R' (R ++ C) (R' ++ C)
 | next {x : α} {us us' : List α} : Repl R R' us us' → Repl R R' (x :: us) (x :: us')
 | skip {S us us' : List α} : Repl R R' us us' → Repl R R' (S ++ us) (S ++ us')
theorem Repl.eq {α : Type} {R R' H H' : List α} (h : Repl R R' H H') : ∃ A C, H = A ++ (R ++ C) ∧ H' = A ++ (R' ++ C) := by
 induction h with
 | last => exact ⟨[], [], by simp, by simp⟩
 | @here C => exact ⟨[], C, by simp, by simp⟩
 | @next x us us' _ ih => obtain ⟨A, C, h1, h2⟩ := ih; exact ⟨x :: A, C, by simp [h1], by simp [h2]⟩
 | @skip S us us' _ ih => obtain ⟨A, C, h1, h2⟩ := ih; exact ⟨S ++ A, C, by simp [h1], by simp [h2]⟩
def Src (σ : St) (u : Value) (m : Nat) (news : List Value) (s : Nat) : Prop :=
 news.length = m * s ∧ (∀ x ∈ news, x.oneCell' = true) ∧ ∃ a c, u = .slice a m c ∧ (a = none → m = 0) ∧ ∀ x, a = some x → (0 < m → x.spot = none) ∧ ∀ j v, news[j]? = some v → Cell σ (addc x j) v
theorem K7 {news : List Value} {m s j : Nat} {v : Value} (h : news.length = m * s) (hj : news[j]? = some v) : 0 < m := by
 have := (List.getElem?_eq_some_iff.1 hj).1
 rcases Nat.eq_zero_or_pos m with rfl | h0
 · simp at h; subst h; simp at this
 exact h0
theorem Src.run {u : Value} {m s : Nat} {news : List Value} (h : Src σ u m news s) {w : World} (hw : Holds B σ w) : (Builtin.firstCells s m u).run P w = .ok news.toArray w := by
 obtain ⟨h1, -, a, c, rfl, h3, h4⟩ := h
 cases a with
 | none => have := h3 rfl; subst this; have : news = [] := List.eq_nil_of_length_eq_zero (by simpa using h1); subst this; rfl
 | some x =>
   obtain ⟨h5, h6⟩ := h4 x rfl
   have := DO (P := P) (a := x) (w := w) news 0 #[] (fun j v hj => by rw [Nat.zero_add, Cz (h5 (K7 h1 hj))]; exact (h6 j v hj).get hw)
   simp only [Builtin.firstCells, loadCells, ← h1, this]; simp
theorem Src.len {u : Value} {m s : Nat} {news : List Value} (h : Src σ u m news s) (w : World) : (Builtin.lenOf u).run P w = .ok m w := by
 obtain ⟨-, -, a, c, rfl, -⟩ := h; rfl
theorem Sl.src {α : Type} {F : Heap} {H : List (Nat × Obj)} {v : Value} {s : Nat} {enc : α → List Value} {xs : List α} (h : Sl F v s enc xs) (hs : ∀ x, (enc x).length = s) (h1 : ∀ x, ∀ u ∈ enc x, u.oneCell' = true) :
   Src ⟨F, H⟩ v xs.length (xs.flatMap enc) s := by
 have hlen : ∀ l : List α, (l.flatMap enc).length = l.length * s := by
   intro l; induction l with
   | nil => simp
   | cons x l ih => simp [List.flatMap_cons, hs, ih, Nat.add_mul, Nat.add_comm]
 obtain ⟨a, c, rfl, hsp, hno, hlc, -⟩ := h.plain
 refine ⟨hlen xs, fun u hu => ?_, a, c, rfl, fun ha => (hno ha).1, fun x hx => ⟨fun h0 => hsp (by omega) x hx, fun j u hj => ?_⟩⟩
 · obtain ⟨x, -, hx⟩ := List.mem_flatMap.1 hu
   exact h1 x u hx
 subst hx
 have key : ∀ (l : List α) (j : Nat) (u : Value), (l.flatMap enc)[j]? = some u → ∃ i k, ∃ hi : i < l.length, j = i * s + k ∧ (enc l[i])[k]? = some u := by
   intro l
   induction l with
   | nil => intro j u hj; simp at hj
   | cons x l ih =>
     intro j u hj
     rw [List.flatMap_cons, List.getElem?_append] at hj
     split at hj
     · exact ⟨0, j, by simp, by simp, by simpa using hj⟩
     rename_i hge
     rw [hs] at hj hge
     obtain ⟨i, k, hi, e1, e2⟩ := ih _ u hj
     exact ⟨i + 1, k, by simpa using hi, by rw [Nat.add_mul]; omega, by simpa using e2⟩
 obtain ⟨i, k, hi, rfl, hk⟩ := key xs j u hj
 have := h.cells i hi k u hk
 have hb : addc (base (.slice (some x) xs.length c)) (i * s + k) = addc x (i * s + k) := by
   simp [base, addc]
 rw [hb] at this
 exact this.cell
theorem B1 {F : Heap} {H : List (Nat × Obj)} {b T s m c : Nat} {l : List Value} (i : Nat) (hi : H[i]? = some (b, bx T l)) (hl : l.length = m * s) (h1 : ∀ u ∈ l, u.oneCell' = true) : Src ⟨F, H⟩ (.slice (some ⟨b, 0, none⟩) m c) m l s :=
 ⟨hl, h1, _, c, rfl, by simp, fun x hx => by cases hx; exact ⟨fun _ => rfl, Bz i hi⟩⟩
theorem Holds.marks_sub {w : World} (h : Holds B σ w) {H' : List (Nat × Obj)} (hs : ∀ k ∈ H'.map (·.1), k ∈ σ.H.map (·.1)) : ∀ D, D ∈ B.ds → w.heap[D]? = some (.deferred (some [])) ∧ σ.F D = none ∧ B.w0.heap.size ≤ D ∧ D ∉ H'.map (·.1) := fun D hD =>
 let ⟨k1, k2, k3, k4⟩ := h.marks D hD; ⟨k1, k2, k3, fun hm => k4 (hs D hm)⟩
theorem Holds.swap {w : World} (h : Holds B σ w) {A C R R' : List (Nat × Obj)} (hH : σ.H = A ++ (R ++ C)) (hR : ∀ p ∈ R', p ∈ R) (hd : (keys R').Nodup) : Holds B ⟨σ.F, A ++ (R' ++ C)⟩ w := by
 refine ⟨h.os, h.tape, h.output, h.size, h.old, h.sub, fun p hp => h.own p ?_, ?_, h.ext, h.le, h.marks_sub fun k hk => ?_, h.dnodup⟩
 · rw [hH]
   rcases List.mem_append.1 hp with hp | hp
   · exact List.mem_append_left _ hp
   rcases List.mem_append.1 hp with hp | hp
   · exact List.mem_append_right _ (List.mem_append_left _ (hR p hp))
   exact List.mem_append_right _ (List.mem_append_right _ hp)
 · have hnd := h.nodup
   rw [hH] at hnd
   simp only [List.map_append, List.nodup_append] at hnd ⊢
   obtain ⟨n1, ⟨n2, n3, n4⟩, n5⟩ := hnd
   have sub : ∀ k, k ∈ R'.map (·.1) → k ∈ R.map (·.1) := fun k hk => by
     obtain ⟨p, hp, rfl⟩ := List.mem_map.1 hk
     exact List.mem_map_of_mem (hR p hp)
   refine ⟨n1, ⟨hd, n3, fun a ha b hb => n4 a (sub a ha) b hb⟩, fun a ha b hb => ?_⟩
   rcases List.mem_append.1 hb with hb | hb
   · exact n5 a ha b (List.mem_append_left _ (sub b hb))
   exact n5 a ha b (List.mem_append_right _ hb)
 obtain ⟨p, hp, rfl⟩ := List.mem_map.1 hk
 refine List.mem_map_of_mem ?_
 rw [hH]
 rcases List.mem_append.1 hp with hp | hp
 · exact List.mem_append_left _ hp
 rcases List.mem_append.1 hp with hp | hp
 · exact List.mem_append_right _ (List.mem_append_left _ (hR p hp))
 exact List.mem_append_right _ (List.mem_append_right _ hp)
theorem Holds.renew {w : World} (h : Holds B σ w) {A C R : List (Nat × Obj)} (hH : σ.H = A ++ (R ++ C)) (o : Obj) : Holds B ⟨σ.F, A ++ ([(w.heap.size, o)] ++ C)⟩ (w.alloc o) := by
 have h1 := (h.swap (R' := []) hH (by simp) (by simp [keys])).alloc o
 simp only [List.nil_append] at h1
 refine ⟨h1.os, h1.tape, h1.output, h1.size, h1.old, h1.sub, fun p hp => h1.own p ?_, ?_, h1.ext, h1.le, h1.marks_sub fun k hk => ?_, h1.dnodup⟩
 · simp only [List.mem_append, List.mem_cons] at hp ⊢
   rcases hp with hp | (hp | hp) | hp
   · exact .inr (.inl hp)
   · exact .inl hp
   · exact absurd hp (by simp)
   exact .inr (.inr hp)
 · have := h1.nodup
   simp only [List.map_cons, List.map_append, List.nodup_cons, List.mem_append, List.nodup_append, List.map_nil] at this ⊢
   obtain ⟨m1, m2, m3, m4⟩ := this
   refine ⟨m2, ⟨⟨by simp, by simp⟩, m3, fun a ha b hb => ?_⟩, fun a ha b hb => ?_⟩
   · simp at ha; subst ha; intro he; subst he; exact m1 (.inr hb)
   rcases hb with hb | hb
   · simp at hb; subst hb; intro he; subst he; exact m1 (.inl ha)
   exact m4 a ha b hb
 simp only [List.map_append, List.map_cons, List.map_nil, List.mem_append, List.mem_cons, List.not_mem_nil, or_false] at hk ⊢
 rcases hk with hk | hk | hk
 · exact .inr (.inl hk)
 · exact .inl hk
 exact .inr (.inr hk)
theorem Holds.rewrite {w : World} (h : Holds B σ w) {A C : List (Nat × Obj)} {b T : Nat} {l l' : List Value} (hH : σ.H = A ++ ([(b, bx T l)] ++ C)) {w' : World}
   (hos : w'.os = w.os) (ht : w'.tape = w.tape) (ho : w'.output = w.output) (hsz : w'.heap.size = w.heap.size)
   (hb : w'.heap[b]? = some (bx T l')) (hne : ∀ k, k ≠ b → w'.heap[k]? = w.heap[k]?) : Holds B ⟨σ.F, A ++ ([(b, bx T l')] ++ C)⟩ w' := by
 have hi : σ.H[A.length]? = some (b, .cells l.toArray T (0, 0)) := by rw [hH]; simp [bx]
 have := h.write (c' := l'.toArray) hi hos ht ho hsz hb hne
 rw [hH] at this
 simpa [bx] using this
structure ElemT (P : Program) (E s bytes : Nat) (z : Value) : Prop where
 ex : ∃ i, P.info? E = some i ∧ i.size = s ∧ i.bytes = bytes ∧ i.zero = some z
 zs : z.cells.size = s
 b0 : 0 < bytes
theorem D6 {E s bytes : Nat} {z : Value} (h : (P.info? E).map (fun i => (i.size, i.bytes, i.zero)) = some (s, bytes, some z)) (h1 : z.cells.size = s) (h2 : 0 < bytes) : ElemT P E s bytes z := by
 cases hi : P.info? E with
 | none => rw [hi] at h; simp at h
 | some i => rw [hi] at h; simp at h; exact ⟨⟨i, hi, h.1, h.2.1, h.2.2⟩, h1, h2⟩
theorem FV {T E s bytes : Nat} {z v u : Value} {k m : Nat} {cs news : List Value} {R : List (Nat × Obj)} (hT : SliceT P T E s) (hE : ElemT P E s bytes z)
   {w : World} (hw : Holds B σ w) (hown : Own E s v k cs R) (hsrc : Src σ u m news s) {A C : List (Nat × Obj)} (hH : σ.H = A ++ (R ++ C)) (hroom : (k + m) * bytes ≤ 140737488355328) (hk : k + m ≤ 9223372036854775807) :
   ∃ v' w' R', (Builtin.append_ #[T, T] ty #[v, u]).run P w = .ok v' w' ∧ Holds B ⟨σ.F, A ++ (R' ++ C)⟩ w' ∧ Own E s v' (k + m) (cs ++ news) R' := by
 obtain ⟨i, hi, hi1, hi2, hi3⟩ := hE.ex
 subst hi1
 have hzs := hE.zs
 obtain ⟨hl, h1, a, c, rfl, hno, hsp⟩ := hsrc
 have h63 : ((k + m : Nat) : Int) ≤ 9223372036854775807 := by omega
 have hsame : Holds B ⟨σ.F, A ++ (R ++ C)⟩ w := by rw [← hH]; exact hw
 cases a with
 | none =>
   have hm := hno rfl
   subst hm
   have hn : news = [] := List.eq_nil_of_length_eq_zero (by simpa using hl)
   subst hn
   match R, hown with
   | [], h =>
     obtain ⟨rfl, rfl, rfl⟩ := h
     refine ⟨.slice none 0 0, w, [], ?_, hsame, BZ⟩
     have hs := BL (P := P) (T := E) (s := i.size) hT.2
     simp [Builtin.append_, Bo hT.1, hs, Builtin.lenOf, Builtin.firstCells]
   | [(b, o)], h =>
     obtain ⟨cap, spare, rfl, rfl, h3, h4, h5⟩ := h
     refine ⟨.slice (some ⟨b, 0, none⟩) k cap, w, [(b, bx E (cs ++ spare))], ?_, hsame, cap, spare, rfl, by simp, by simpa using h3, by simpa using h4, h5⟩
     have hs := BL (P := P) (T := E) (s := i.size) hT.2
     simp [Builtin.append_, Bo hT.1, hs, Builtin.lenOf, h5, Builtin.firstCells, storeCells]
 | some x =>
   obtain ⟨hx1, hx2⟩ := hsp x rfl
   have hnews : ∀ j u, news[j]? = some u → w.cell? (x.add j) = some u := fun j u hj => by rw [Cz (hx1 (K7 hl hj))]; exact (hx2 j u hj).get hw
   have size_zero : ∀ k, (Builtin.zeroCells z.cells k).toList.length = k * i.size := by
     intro k; rw [Array.length_toList, size_zeroCells, hzs]
   match R, hown with
   | [], h =>
     obtain ⟨rfl, rfl, rfl⟩ := h
     by_cases hm : m = 0
     · subst hm
       have hn : news = [] := List.eq_nil_of_length_eq_zero (by simpa using hl)
       subst hn
       refine ⟨.slice none 0 0, w, [], ?_, hsame, BZ⟩
       have hs := BL (P := P) (T := E) (s := i.size) hT.2
       simp [Builtin.append_, Bo hT.1, hs, Builtin.lenOf, Builtin.firstCells, loadCells, loadCellsFrom]
     have hr := run_append_nil (P := P) w T ty E i z hT.1 hi hi3 x m c news hl hnews (by omega) (by omega) (by rw [hi2]; have := hroom; simp only [Nat.zero_add] at this; omega)
     refine ⟨_, _, [(w.heap.size, _)], hr, hw.drew.renew hH _, grownCap w m 0 E, (Builtin.zeroCells z.cells (grownCap w m 0 E - m)).toList, by simp, ?_, by simpa using hl, ?_, by have := grownCap_ge w m 0 E; omega⟩
     · simp only [bx, List.nil_append]
       congr 1
       apply Array.ext'; simp
     simp only [List.nil_append, List.length_append, size_zero, hl]
     rw [← Nat.add_mul]; congr 1; have := grownCap_ge w m 0 E; omega
   | [(b, o)], h =>
     obtain ⟨cap, spare, rfl, rfl, h3, h4, h5⟩ := h
     have hbw := (hw.own (b, bx E (cs ++ spare)) (by rw [hH]; simp)).1
     by_cases hfit : k + m ≤ cap
     · have hle : k * i.size + news.length ≤ (cs ++ spare).toArray.size := by
         rw [List.size_toArray, h4, hl, ← Nat.add_mul]; exact Nat.mul_le_mul_right _ hfit
       have hr := run_append_room (P := P) w T ty E i hT.1 hi b k cap (cs ++ spare).toArray hbw x m c news hl hnews h1 hfit hle
       have hrow : (List.take (k * i.size) (cs ++ spare).toArray.toList ++ news ++ List.drop (k * i.size + news.length) (cs ++ spare).toArray.toList) = cs ++ news ++ spare.drop news.length := by
         simp only [← h3, List.take_left, List.append_assoc, List.append_cancel_left_eq]
         rw [← List.drop_drop, List.drop_left]
       rw [hrow] at hr
       have hset : (w.setRow b (cs ++ news ++ spare.drop news.length).toArray).heap[b]? = some (bx E (cs ++ news ++ spare.drop news.length)) := setRow_heap w b _ _ E _ hbw
       refine ⟨_, _, [(b, bx E (cs ++ news ++ spare.drop news.length))], hr, hw.rewrite hH rfl rfl rfl (by simp [World.setRow]) hset (fun q hq => setRow_other w b q _ hq), cap, spare.drop news.length, rfl, rfl, by rw [List.length_append, h3, hl, Nat.add_mul], ?_, hfit⟩
       have : k * i.size + news.length ≤ cap * i.size := by rw [hl, ← Nat.add_mul]; exact Nat.mul_le_mul_right _ hfit
       simp only [List.length_append, List.length_drop] at h4 ⊢
       omega
     have holds : ∀ j u, cs[j]? = some u → w.cell? ((⟨b, 0, none⟩ : Addr).add j) = some u := fun j u hj => by
       have hj' := (List.getElem?_eq_some_iff.1 hj).1
       rw [Cz rfl]
       unfold World.cell?
       simp only [addc, hbw, bx]
       simp [List.getElem?_append_left hj', hj]
     have hgf := growslice_fits (need := k + m) (old := cap) (bytes := bytes) (by omega) hroom
     have hr := run_append_grow (P := P) w T ty E i z hT.1 hi hi3 ⟨b, 0, none⟩ k cap cs h3 holds x m c news hl hnews (by omega) h63 (by rw [hi2]; exact hgf)
     refine ⟨_, _, [(w.heap.size, _)], hr, hw.drew.renew hH _, grownCap w (k + m) cap E, (Builtin.zeroCells z.cells (grownCap w (k + m) cap E - (k + m))).toList, rfl, ?_, by rw [List.length_append, h3, hl, Nat.add_mul], ?_, grownCap_ge w (k + m) cap E⟩
     · simp only [bx]
       congr 1
       apply Array.ext'; simp
     simp only [List.length_append, size_zero, h3, hl]
     rw [← Nat.add_mul, ← Nat.add_mul]; congr 1; have := grownCap_ge w (k + m) cap E; omega
inductive Hole {α : Type} : List α → List α → (List α → List α) → Prop
 | z {T : List α} : Hole T T (fun t => t)
 | s {x : α} {us T : List α} {f : List α → List α} : Hole us T f → Hole (x :: us) T (fun t => x :: f t)
 | k {S us T : List α} {f : List α → List α} : Hole us T f → Hole (S ++ us) T (fun t => S ++ f t)
theorem Hole.eq {α : Type} {H T : List α} {f : List α → List α} (h : Hole H T f) : ∃ A, H = A ++ T ∧ ∀ t, f t = A ++ t := by
 induction h with
 | z => exact ⟨[], by simp, by simp⟩
 | @s x us T f _ ih => obtain ⟨A, h1, h2⟩ := ih; exact ⟨x :: A, by simp [h1], by simp [h2]⟩
 | @k S us T f _ ih => obtain ⟨A, h1, h2⟩ := ih; exact ⟨S ++ A, by simp [h1], by simp [h2]⟩
inductive Tail {α : Type} : List α → List α → (List α → List α) → Prop
 | last {R : List α} : Tail R R (fun r => r)
 | more {R C : List α} : Tail (R ++ C) R (fun r => r ++ C)
 | box {p : α} {C : List α} : Tail (p :: C) [p] (fun r => r ++ C)
 | nil {C : List α} : Tail C [] (fun r => r ++ C)
 | end : Tail [] [] (fun r => r)
theorem Tail.eq {α : Type} {T R : List α} {g : List α → List α} (h : Tail T R g) : ∃ C, T = R ++ C ∧ ∀ r, g r = r ++ C := by
 cases h with
 | last => exact ⟨[], by simp, by simp⟩
 | more => exact ⟨_, rfl, fun _ => rfl⟩
 | box => exact ⟨_, rfl, fun _ => rfl⟩
 | nil => exact ⟨_, rfl, fun _ => rfl⟩
 | «end» => exact ⟨[], rfl, by simp⟩
theorem Bp {T E s bytes : Nat} {x y : Operand} {z v u : Value} {k m : Nat} {cs news : List Value} {R TT : List (Nat × Obj)} {f g : List (Nat × Obj) → List (Nat × Obj)} {K : Value → St → Prop} (hT : SliceT P T E s) (hE : ElemT P E s bytes z)
   (hx : ev e x = v) (hown : Own E s v k cs R) (hy : ev e y = u) (hsrc : Src σ u m news s) (hroom : (k + m) * bytes ≤ 140737488355328) (hk : k + m ≤ 9223372036854775807) (hH : Hole σ.H TT f) (hR : Tail TT R g)
   (hn : ∀ v' R', Own E s v' (k + m) (cs ++ news) R' → K v' ⟨σ.F, f (g R')⟩) :
   OpX P n B ⟨d, .call ⟨.builtin .append, #[x, y], #[T, T]⟩, ty, pos, af, gd⟩ e σ K := .run fun w hw => by
 obtain ⟨A, q1, q2⟩ := hH.eq
 obtain ⟨C, r1, r2⟩ := hR.eq
 obtain ⟨v', w', R', e1, e2, e3⟩ := FV (P := P) (ty := ty) hT hE hw hown hsrc (q1.trans (by rw [r1])) hroom hk
 have hrun : (execOp (ev e) ⟨d, .call ⟨.builtin .append, #[x, y], #[T, T]⟩, ty, pos, af, gd⟩).run P w = .ok (.value v') w' := by
   simp [execOp, resolve, invoke, builtin, hx, hy, e1]
 have := hn v' R' e3
 rw [r2, q2] at this
 exact ⟨v', w', _, .inl hrun, e2, this⟩
theorem Ft {T E s bytes : Nat} {x y : Operand} {z : Value} {k : Nat} {i : Int} {K : Value → St → Prop} (hT : SliceT P T E s) (hE : ElemT P E s bytes z) (h1 : s = 1) (hz : z.oneCell' = true) (hx : ev e x = .int .i64 i) (hy : ev e y = .int .i64 i) (hi : i = (k : Int)) (hroom : bytes * k ≤ 281474976710656) (hk : k ≤ 9223372036854775807)
   (hn : ∀ b, B.w0.heap.size ≤ b → σ.F b = none → K (.slice (some ⟨b, 0, none⟩) k k) ⟨σ.F, (b, bx E (List.replicate k z)) :: σ.H⟩) :
   OpX P n B ⟨d, .makeSlice T x y, ty, pos, af, gd⟩ e σ K := .run fun w hw => by
 obtain ⟨j, hj, hj1, hj2, hj3⟩ := hE.ex
 subst hi
 subst hj2
 have hby : (j.bytes : Int) * (k : Int) ≤ 281474976710656 := by
   have : ((j.bytes * k : Nat) : Int) ≤ 281474976710656 := by omega
   rwa [Int.natCast_mul] at this
 have hr := run_make (P := P) w T E j z hT.1 hj hj3 .i64 .i64 k k (by omega) (Int.le_refl _) hby (by omega)
 have hcells : madeCells z.cells ((k : Int).toNat * j.size) = (List.replicate k z).toArray := by
   rw [hj1, h1, Int.toNat_natCast, Nat.mul_one, B9 hz]
   apply Array.ext'
   simp [madeCells]
   apply List.ext_getElem
   · simp
   intro q h1 h2; simp [Nat.mod_one]
 rw [hcells] at hr
 refine ⟨_, _, _, .inl ?_, hw.alloc (bx E (List.replicate k z)), hn _ hw.size hw.fresh⟩
 simp [execOp, hx, hy, hr, bx]
theorem AM {T E : Nat} {xs : List Operand} {vs : List Value} {m : Nat} {ps : List (Nat × Operand)} {z : Value} {K : Value → St → Prop} (hT : SliceT P T E 1) (hz : ZeroT P E z) (hz1 : z.oneCell' = true) (hx : Av e xs vs) (hps : ps = xs.zipIdx.map fun p => (p.2, p.1)) (hm : vs.length = m) (hm2 : m ≤ 16777216) (h1 : ∀ u ∈ vs, u.oneCell' = true)
   (hn : ∀ b, B.w0.heap.size ≤ b → σ.F b = none → K (.slice (some ⟨b, 0, none⟩) m m) ⟨σ.F, (b, bx E vs) :: σ.H⟩) :
   OpX P n B ⟨d, .buildSlice T m ps.toArray, ty, pos, af, gd⟩ e σ K := .run fun w hw => by
 subst hm
 subst hps
 have hs := BL (P := P) (T := E) (s := 1) hT.2
 have hfill : ∀ (us : List Value) (pre c : List Value), c.length = us.length → (∀ u ∈ us, u.oneCell' = true) → Instr.fill (fun i => some (i * 1, 1)) (pre ++ c).toArray ((us.zipIdx pre.length).map fun p => (p.2, p.1)) = some (pre ++ us).toArray := by
   intro us
   induction us with
   | nil => intro pre c hc _; have : c = [] := List.eq_nil_of_length_eq_zero (by simpa using hc); subst this; simp [Instr.fill]
   | cons u us ih =>
     intro pre c hc h1
     match c, hc with
     | q :: c, hc =>
       simp only [List.zipIdx_cons, List.map_cons]
       unfold Instr.fill
       have hcu := B9 (h1 u (by simp))
       simp only [hcu]
       rw [if_neg (by simp)]
       have e1 : ((([u] : List Value).toArray).zipIdx.foldl (fun x x_1 => match x_1 with | (c, j) => x.setIfInBounds (pre.length * 1 + j) c) (pre ++ q :: c).toArray) = ((pre ++ [u]) ++ c).toArray := by
         simp [Array.zipIdx]
       rw [e1]
       have := ih (pre ++ [u]) c (by simpa using hc) (fun v hv => h1 v (List.mem_cons_of_mem _ hv))
       simp only [List.length_append, List.length_singleton] at this
       rw [this]; simp
 have hav := hx.map
 have hparts : ((xs.zipIdx.map fun p => (p.2, p.1)).toArray.map fun (x : Nat × Operand) => match x with | (i, x) => (i, ev e x)).toList = (vs.zipIdx 0).map fun p => (p.2, p.1) := by
   rw [← hav]
   simp [List.map_map, List.zipIdx_map]
 have hf := hfill vs [] (List.replicate vs.length z) (by simp) h1
 simp only [List.nil_append, List.length_nil] at hf
 have hrow : ((Array.range (vs.length * 1)).map (z.cells[· % z.cells.size]!)) = (List.replicate vs.length z).toArray := by
   rw [Nat.mul_one, B9 hz1]
   apply Array.ext'
   simp
   apply List.ext_getElem
   · simp
   intro q h1 h2; simp [Nat.mod_one]
 refine ⟨_, _, _, .inl ?_, hw.alloc (bx E vs), hn _ hw.size hw.fresh⟩
 have hbig : ¬ (16777216 < vs.length) := by omega
 by_cases h0 : vs.length = 0
 · have : vs = [] := List.eq_nil_of_length_eq_zero h0
   subst this
   have hxs : xs = [] := by cases hx; rfl
   subst hxs
   have hr0 : Array.range 0 = #[] := rfl
   simp [execOp, Instr.buildSlice, Bo hT.1, hs, Instr.fill, newRow, bx, hr0]
 rw [Nat.mul_one] at hrow
 have hbig' : ¬ (vs.length * 1 > 2 ^ 24) := by omega
 have h0' : ¬ (vs.length * 1 = 0) := by omega
 simp only [execOp, Instr.buildSlice, Sem.run_bind, Bo hT.1, hs, Result.andThen_ok, hparts, if_neg hbig', if_neg h0', E0 hz, Sem.run_pure]
 simp only [Nat.mul_one] at hf ⊢
 rw [hrow]
 simp only [hf]
 simp [newRow, bx]
end
end
section
open Go.RowKit
section
variable {P : Program} {n : Nat} {B : Base} {e : Env} {σ : St} {d : Option Nat} {ty : TypeId} {pos : String} {af : Array Edge} {gd : Option (Nat × Bool)}
theorem FZ {T : Nat} {x y : Operand} {s : ByteArray} {i : Int} {k : Nat} {kd : IntKind} (hT : P.underlying T = some .string) (hx : ev e x = .string s) (hy : ev e y = .int kd i) (hi : i = (k : Int)) (hk : k < s.size) :
   OpR P B ⟨d, .index T x y, ty, pos, af, gd⟩ e σ (.int .u8 ((s[k]'hk).toNat : Int)) := fun w _ => by
 subst hi
 simp [execOp, hx, hy, Instr.index, asIntOf, Bo hT, hk]
theorem q_min2 {x y : Operand} {a b : Int} {ts : Array TypeId} (hx : ev e x = .int .i64 a) (hy : ev e y = .int .i64 b) : OpR P B ⟨d, .call ⟨.builtin .min, #[x, y], ts⟩, ty, pos, af, gd⟩ e σ (.int .i64 (min a b)) := fun w _ => by
 have : (if b < a then b else a) = min a b := by split <;> omega
 simp [execOp, resolve, invoke, builtin, Builtin.min_, hx, hy, Builtin.min2, this]
theorem Uf {x y : Operand} {a b : Int} {ts : Array TypeId} (hx : ev e x = .int .i64 a) (hy : ev e y = .int .i64 b) : OpR P B ⟨d, .call ⟨.builtin .max, #[x, y], ts⟩, ty, pos, af, gd⟩ e σ (.int .i64 (max a b)) := fun w _ => by
 simp [execOp, resolve, invoke, builtin, Builtin.max_, hx, hy, Builtin.max2]
 first | done | (split <;> omega)
theorem Holds.setObj {w : World} (h : Holds B σ w) {i b : Nat} {o o' : Obj} (hi : σ.H[i]? = some (b, o)) : Holds B ⟨σ.F, σ.H.set i (b, o')⟩ { w with heap := w.heap.setIfInBounds b o' } := by
 obtain ⟨hil, hie⟩ := List.getElem?_eq_some_iff.1 hi
 have hmem : (b, o) ∈ σ.H := List.mem_of_getElem? hi
 obtain ⟨hb1, hb2, hb3⟩ := h.own _ hmem
 have hlt := h.lt hmem
 have hbnew : (w.heap.setIfInBounds b o')[b]? = some o' := by simp [hlt]
 have hne : ∀ k, k ≠ b → (w.heap.setIfInBounds b o')[k]? = w.heap[k]? := fun k hk => Array.getElem?_setIfInBounds_ne (Ne.symm hk)
 have hkeys : (σ.H.set i (b, o')).map (·.1) = σ.H.map (·.1) := by
   rw [List.map_set]
   have : (σ.H.map (·.1))[i]? = some b := by simp [hi]
   exact List.ext_getElem? fun j => by
     rw [List.getElem?_set]
     split
     · rename_i hj; subst hj
       rw [this]; simp [hil]
     rfl
 refine ⟨h.os, h.tape, h.output, by simpa using h.size, ?_, ?_, ?_, by rw [hkeys]; exact h.nodup, h.ext, h.le, fun D hD => ?_, h.dnodup⟩
 · intro k hk hM
   have : k ≠ b := by
     rintro rfl
     rcases hb3 with hb3 | hb3
     · simp at hb3; omega
     exact hM hb3
   rw [show ({ w with heap := w.heap.setIfInBounds b o' } : World).heap[k]? = _ from hne k this]; exact h.old k hk hM
 · intro k u hk
   have : k ≠ b := by
     rintro rfl
     simp only at hb2 hk
     rw [hb2] at hk; cases hk
   rw [show ({ w with heap := w.heap.setIfInBounds b o' } : World).heap[k]? = _ from hne k this]; exact h.sub k u hk
 · intro p hp
   obtain ⟨j, hj⟩ := List.getElem?_of_mem hp
   rw [List.getElem?_set] at hj
   split at hj
   · simp only [Option.some.injEq] at hj
     first | (subst hj; exact ⟨hbnew, hb2, hb3⟩) | (rename_i hij; subst hij; simp only [hil, if_true, Option.some.injEq] at hj; subst hj; exact ⟨hbnew, hb2, hb3⟩)
   rename_i hij
   have hpm : p ∈ σ.H := List.mem_of_getElem? hj
   obtain ⟨h1, h2, h3⟩ := h.own p hpm
   have : p.1 ≠ b := by
     intro he
     have e1 : (σ.H.map (·.1))[i]? = some b := by simp [hi]
     have e2 : (σ.H.map (·.1))[j]? = some b := by simp [hj, he]
     have hjl : j < (σ.H.map (·.1)).length := (List.getElem?_eq_some_iff.1 e2).1
     exact hij (((List.getElem?_inj hjl h.nodup).1 (by rw [e1, e2])).symm)
   exact ⟨(hne _ this).trans h1, h2, h3⟩
 obtain ⟨k1, k2, k3, k4⟩ := h.marks D hD
 exact ⟨(hne _ (fun he => k4 (by rw [he]; exact List.mem_map_of_mem hmem))).trans k1, k2, k3, by rw [hkeys]; exact k4⟩
theorem Tw {T : Nat} {x : Operand} {s : ByteArray} {K : Value → St → Prop} (hT : P.underlying T = some .string) (hx : ev e x = .string s)
   (hn : ∀ b, B.w0.heap.size ≤ b → σ.F b = none → K (.pointer (some ⟨b, 0, none⟩)) ⟨σ.F, (b, .stringIter s 0) :: σ.H⟩) : OpX P n B ⟨d, .range T x, ty, pos, af, gd⟩ e σ K :=
 Ty (fun w _ => by have := run_range_string (P := P) w T s hT; simp [execOp, hx, this, World.iter]) hn
theorem Q9 {x : Operand} {i b p c wd : Nat} {s : ByteArray} {H' : List (Nat × Obj)} {K : Value → St → Prop} (hx : ev e x = .pointer (some ⟨b, 0, none⟩)) (hi : σ.H[i]? = some (b, .stringIter s p)) (hp : p < s.size) (hdec : Utf8.decode s p = (c, wd))
   (hH : SetL σ.H i (b, .stringIter s (p + wd)) H') (hn : K (.tuple #[.bool true, .int .i64 p, .int .i32 c]) ⟨σ.F, H'⟩) : OpX P n B ⟨d, .next x true, ty, pos, af, gd⟩ e σ K := .run fun w hw => by
 have hd1 : (Utf8.decode s p).1 = c := by rw [hdec]
 have hd2 : (Utf8.decode s p).2 = wd := by rw [hdec]
 subst hd1; subst hd2
 have hb := (hw.own _ (List.mem_of_getElem? hi)).1
 rw [hH.eq.1] at hn
 refine ⟨_, _, _, .inl ?_, hw.setObj hi (o' := .stringIter s (p + (Utf8.decode s p).2)), hn⟩
 have hb' : w.heap[b]? = some (.stringIter s p) := hb
 simp only [execOp, hx, Instr.next, Go.getObj, Go.setObj, Sem.run_bind, Sem.run, hb', Result.andThen]
 simp [hp, hb', Sem.run, Result.andThen, goInt]
theorem x_nextE {x : Operand} {i b p : Nat} {s : ByteArray} {K : Value → St → Prop} (hx : ev e x = .pointer (some ⟨b, 0, none⟩)) (hi : σ.H[i]? = some (b, .stringIter s p)) (hp : ¬ p < s.size)
   (hn : K (.tuple #[.bool false]) σ) : OpX P n B ⟨d, .next x true, ty, pos, af, gd⟩ e σ K := .run fun w hw => by
 have hb := (hw.own _ (List.mem_of_getElem? hi)).1
 refine ⟨_, _, _, .inl ?_, hw, hn⟩
 have hb' : w.heap[b]? = some (.stringIter s p) := hb
 simp only [execOp, hx, Instr.next, Go.getObj, Sem.run_bind, Sem.run, hb', Result.andThen]
 simp [hp]
theorem Pg (s : ByteArray) (p : Nat) (h : p < s.size) (ha : 128 ≤ (s[p]'h).toNat) : 128 ≤ (Utf8.decode s p).1 := by
 have e0 : s.get! (p + 0) = s[p]'h := by
   show s.get! p = _
   simp [ByteArray.get!, getElem!_pos, h]
   rfl
 unfold Utf8.decode
 simp only [e0]
 rw [if_neg (by omega)]
 unfold Utf8.runeError
 repeat' split
 all_goals (first | omega | (rename_i h1 _ ; omega) | (simp_all; omega))
def ArrT (P : Program) (T len E s : Nat) : Prop := P.underlying T = some (.array len E) ∧ SizeT P E s
def arrB (P : Program) (T len E s : Nat) : Bool := (match P.underlying T with | some (.array l E') => l == len && E' == E | _ => false) && (match P.info? E with | some i => i.size == s | none => false)
theorem KN {T len E s : Nat} (h : arrB P T len E s = true) : ArrT P T len E s := by
 unfold arrB at h
 simp only [Bool.and_eq_true] at h
 obtain ⟨h1, h2⟩ := h
 split at h1 <;> simp at h1
 split at h2 <;> simp at h2
 obtain ⟨rfl, rfl⟩ := h1
 exact ⟨by assumption, _, by assumption, h2⟩
theorem PK {T len E s : Nat} {x y : Operand} {a : Addr} {k j : Nat} {kd : IntKind} {i : Int} (hT : ArrT P T len E s) (hx : ev e x = .pointer (some (addc a j))) (hy : ev e y = .int kd i) (hi : i = (k : Int)) (hlt : k < len) :
   OpR P B ⟨d, .indexAddr T x y, ty, pos, af, gd⟩ e σ (.pointer (some (addc a (j + k * s)))) := fun w _ => by
 subst hi
 have hs := BL (P := P) (T := E) (s := s) hT.2
 have : (0 : Int) ≤ (k : Int) ∧ (k : Int) < (len : Int) := ⟨by omega, by omega⟩
 simp only [execOp, hx, hy, Instr.indexAt, asIntOf, Sem.run_bind, Sem.run_pure, Result.andThen_ok, Bo hT.1, Instr.sureAddr, this, and_self, if_true, hs, Int.toNat_natCast]
 rw [Cz (show (addc a j).spot = none from rfl), DM]
theorem AZ {T len E s : Nat} {x y : Operand} {b k j : Nat} {kd : IntKind} {i : Int} (hT : ArrT P T len E s) (hx : ev e x = .pointer (some ⟨b, j, none⟩)) (hy : ev e y = .int kd i) (hi : i = (k : Int)) (hlt : k < len) :
   OpR P B ⟨d, .indexAddr T x y, ty, pos, af, gd⟩ e σ (.pointer (some ⟨b, j + k * s, none⟩)) := by
 have h0 : (⟨b, j, none⟩ : Addr) = addc ⟨b, 0, none⟩ j := by simp [addc]
 rw [h0] at hx
 have := PK (P := P) (B := B) (σ := σ) (ty := ty) (pos := pos) (af := af) (gd := gd) (d := d) hT hx hy hi hlt
 simpa [addc] using this
end
end
section
open Go.RowKit
def waits (ops : Array Oper) : Nat → Nat → Nat → Bool
 | 0, _, _ => false
 | f + 1, j, q => match ops[j]? with
   | some o => o.after.any fun x => Region.binds .any x && (x.on == q || waits ops f x.on q)
   | none => false
def Down (ops : Array Oper) (listed : Array Bool) : Prop :=
 ∀ j o, ops[j]? = some o → listed.getD j false = true → ∀ x ∈ o.after, Region.binds .any x = true → listed.getD x.on false = true
theorem HK {ops : Array Oper} {listed : Array Bool} (hD : Down ops listed) : ∀ f j q, waits ops f j q = true → (∀ o, ops[j]? = some o → ∀ x ∈ o.after, Region.binds .any x = true → listed.getD x.on false = true) → listed.getD q false = true := by
 intro f
 induction f with
 | zero => intro j q h; simp [waits] at h
 | succ f ih =>
   intro j q h hj
   unfold waits at h
   cases ho : ops[j]? with
   | none => rw [ho] at h; simp at h
   | some o =>
     rw [ho] at h
     obtain ⟨x, hx, hb⟩ := Array.any_eq_true'.1 h
     simp only [Bool.and_eq_true, Bool.or_eq_true, beq_iff_eq] at hb
     obtain ⟨hb1, hb2⟩ := hb
     have hl := hj o ho x hx hb1
     rcases hb2 with rfl | hb2
     · exact hl
     exact ih x.on q hb2 (fun o' ho' => hD x.on o' ho' hl)
section
variable {P : Program} {n : Nat} {B : Base} {ops : Array Oper}
def early (ts : List Nat) (listed : Array Bool) : Bool := ts.all fun t => !listed.getD t false
def wpAnyT (P : Program) (ops : Array Oper) (Q : Exit → Act → World → Prop) (S : World → Prop) (ts : List Nat) : Nat → Array Bool → Act → World → Prop
 | 0, listed, a, w => Region.ready .any ops listed = [] ∧ Q .normal a w
 | fuel + 1, listed, a, w => (Region.ready .any ops listed = [] → Q .normal a w) ∧
   ∀ i ∈ Region.ready .any ops listed, wpOp P ops Q i (fun a' w' => (ts.contains i = false → early ts listed = true → S w') ∧ wpAnyT P ops Q S ts fuel (listed.setIfInBounds i true) a' w') a w
theorem KR {Q : Exit → Act → World → Prop} {S : World → Prop} {ts : List Nat} : ∀ (fuel : Nat) (listed : Array Bool) (a : Act) (w : World), wpAnyT P ops Q S ts fuel listed a w → wpAny P .any ops Q fuel listed a w
 | 0, _, _, _, h => h
 | fuel + 1, _, _, _, h => ⟨h.1, fun i hi => wpOp_mono (fun a' w' h' => KR fuel _ a' w' h'.2) (h.2 i hi)⟩
theorem E2 {listed : Array Bool} (hD : Down ops listed) {j : Nat} (hj : j ∈ Region.ready .any ops listed) (hl : j < listed.size) : Down ops (listed.setIfInBounds j true) := by
 obtain ⟨-, oj, hoj, hall⟩ := mem_ready.1 hj
 intro k o ho hk x hx hb
 by_cases hkj : k = j
 · subst hkj
   rw [ho] at hoj
   cases hoj
   exact getD_set_true (hall x hx hb)
 rw [getD_set_ne false (Ne.symm hkj)] at hk
 exact getD_set_true (hD k o ho hk x hx hb)
theorem Nq {Q : Exit → Act → World → Prop} {S : World → Prop} {ts : List Nat} {i : Nat} {oi : Oper} {v : Value} (hi : ops[i]? = some oi) (hsel : ∀ (j : Nat) (o : Oper) cs b, ops[j]? = some o → o.op ≠ .select cs b)
   (hts : ∀ j, ts.contains j = true → ∃ f, waits ops f j i = true) (hit : ts.contains i = false) (hQ : ∀ c a w, Q (.panic c) (a.put oi.dst v) w → Q (.panic c) a w) :
   ∀ (fuel : Nat) (listed : Array Bool) (a : Act) (w : World), Down ops listed → listed.size = ops.size →
     (∀ j oj, ops[j]? = some oj → j ≠ i → listed.getD j true = false → (∀ e ∈ oj.after, Region.binds .any e = true → e.on ≠ i) → oi.apart ops oj = true) →
     i ∈ Region.ready .any ops listed → YieldsIf P ops S oi v a → S w →
     wpAnyT P ops Q S ts fuel (listed.setIfInBounds i true) (a.put oi.dst v) w → wpAnyT P ops Q S ts (fuel + 1) listed a w := by
 intro fuel
 induction fuel with
 | zero =>
   intro listed a w _ _ _ hr hy hS H
   refine ⟨fun h => (by rw [h] at hr; cases hr), fun j hj => ?_⟩
   by_cases hji : j = i
   · subst hji; exact hy.wpOp hi hS ⟨fun _ _ => hS, H⟩
   have := ready_mono hj hji
   rw [H.1] at this
   cases this
 | succ fuel ih =>
   intro listed a w hD hsz hfree hr hy hS H
   refine ⟨fun h => (by rw [h] at hr; cases hr), fun j hj => ?_⟩
   by_cases hji : j = i
   · subst hji; exact hy.wpOp hi hS ⟨fun _ _ => hS, H⟩
   obtain ⟨hjun, oj, hoj, hall⟩ := mem_ready.1 hj
   have hi0 : listed.getD i true = false := (mem_ready.1 hr).1
   have hlt : j < listed.size := by rw [hsz]; exact (Array.getElem?_eq_some_iff.1 hoj).1
   have hlt0 : i < listed.size := by rw [hsz]; exact (Array.getElem?_eq_some_iff.1 hi).1
   have hi1 : listed.getD i false = false := by
     simp only [Array.getD, hlt0, dif_pos] at hi0 ⊢; exact hi0
   have hjt : ts.contains j = false := by
     cases hc : ts.contains j with
     | false => rfl
     | true =>
       obtain ⟨f, hf⟩ := hts j hc
       have := HK hD f j i hf (fun o ho x hx hb => by rw [hoj] at ho; cases ho; exact hall x hx hb)
       rw [hi1] at this; cases this
   have h1 := H.2 j (ready_mono hj hji)
   have hnot : ∀ e ∈ oj.after, Region.binds .any e = true → e.on ≠ i := fun e he hb heq => by
     have h1 := hall e he hb
     rw [heq, hi1] at h1; cases h1
   have h2 := wpOp_putIf hoj (hfree j oj hoj hji hjun hnot) (fun cs b => hsel i oi cs b hi) (fun cs b => hsel j oj cs b hoj) hQ hy h1
   have hfree' : ∀ k ok, ops[k]? = some ok → k ≠ i → (listed.setIfInBounds j true).getD k true = false →
       (∀ e ∈ ok.after, Region.binds .any e = true → e.on ≠ i) → oi.apart ops ok = true := fun k ok hk hki hun hno => by
     refine hfree k ok hk hki ?_ hno
     by_cases hjk : j = k
     · subst hjk; exact hjun
     rw [getD_set_ne true hjk] at hun; exact hun
   have hearly : ∀ lst : Array Bool, Down ops lst → lst.getD i false = false → early ts lst = true := by
     intro lst hDl hli
     unfold early
     rw [List.all_eq_true]
     intro t ht
     cases hl : lst.getD t false with
     | false => rfl
     | true =>
       obtain ⟨f, hf⟩ := hts t (by simpa using ht)
       have := HK hDl f t i hf (fun o ho => hDl t o ho hl)
       rw [hli] at this; cases this
   have he1 : early ts listed = true := hearly listed hD hi1
   have he2 : early ts (listed.setIfInBounds i true) = true := by
     unfold early at he1 ⊢
     rw [List.all_eq_true] at he1 ⊢
     intro t ht
     have h4 := he1 t ht
     by_cases hti : t = i
     · subst hti; rw [show ts.contains t = true by simpa using ht] at hit; cases hit
     rw [getD_set_ne false (Ne.symm hti)]; exact h4
   refine wpOp_mono (fun a' w' h3 => ⟨fun _ _ => h3.2.1 hjt he2, ih (listed.setIfInBounds j true) a' w' (E2 hD hj hlt) (by simpa using hsz) hfree' (ready_mono hr (Ne.symm hji)) h3.1 (h3.2.1 hjt he2) ?_⟩) h2
   rw [Array.setIfInBounds_comm _ _ hji]
   exact h3.2.2
def WX (P : Program) (n : Nat) (B : Base) (ops : Array Oper) (Q : Exit → Env → St → Prop) (σS : St) (ts : List Nat) (fuel : Nat) (listed : Array Bool) (e : Env) (σ : St) : Prop :=
 Down ops listed → listed.size = ops.size → ∀ a w, Fits n B a e → Holds B σ w → wpAnyT P ops (lift n B Q) (Holds B σS) ts fuel listed a w
theorem We {id : Nat} {l : List Oper} {Q : Exit → Env → St → Prop} {e : Env} {σ : St} (hp : Plainly B.ro l) (hO : ∀ e σ, Q .outgrown e σ → False) (σS : St) (ts : List Nat) (hm : P.follows .mixedOrders = true)
   (h : ∀ ds, WX P n (B.at ds) l.toArray Q σS ts l.length (Array.replicate l.length false) e σ) : WC P n B (.region id l.toArray true) Q e σ := by
 intro ds a w ha hw
 refine wpIn_region_any hm (Ex (Jd hO) (by simpa using hp.mem) _ _ _ _ (KR (S := Holds (B.at ds) σS) (ts := ts) _ _ _ _ ?_))
 have hD : Down l.toArray (Array.replicate l.length false) := by
   intro j o _ hj
   simp [Array.getD] at hj
 have := h ds hD (by simp) a _ ha hw.drew
 rw [show lift n (B.at ds) Q = lift n B Q from rfl] at this
 simpa using this
def tailB (ops : Array Oper) (ts : List Nat) (i : Nat) : Bool := ts.all fun j => waits ops ops.size j i
theorem EU {Q : Exit → Env → St → Prop} {σS : St} {ts : List Nat} {fuel : Nat} {listed : Array Bool} {e : Env} {σ : St} (i : Nat) {d : Nat} {op : Op} {ty : TypeId} {pos : String} {af : Array Edge} {v : Value}
   (hi : ops[i]? = some ⟨some d, op, ty, pos, af, none⟩) (hs : Region.noSelect ops = true) (hf : Region.free .any ops listed i = true) (hr : (Region.ready .any ops listed).contains i = true) (ht : tailB ops ts i = true) (hti : ts.contains i = false) (hd : Nat.blt d n = true)
   (hS : ∀ w, Holds B σ w → Holds B σS w) (hQ : ∀ c e σ, Q (.panic c) e σ → False) (hy : OpR P B ⟨some d, op, ty, pos, af, none⟩ e σS v)
   (h : WX P n B ops Q σS ts fuel (listed.setIfInBounds i true) (upd e d v) σ) : WX P n B ops Q σS ts (fuel + 1) listed e σ := by
 intro hD hsz a w ha hw
 have hrm : i ∈ Region.ready .any ops listed := by simpa using hr
 have hlt : i < listed.size := by rw [hsz]; exact (Array.getElem?_eq_some_iff.1 hi).1
 refine Nq (v := v) hi (Region.noSelect_spec hs) (fun j hj => ⟨ops.size, List.all_eq_true.1 ht j (by simpa using hj)⟩) hti (fun c a w h => ?_) fuel listed a w hD hsz (Region.free_spec hi hf) hrm ?_ (hS w hw) ?_
 · obtain ⟨ds, e', σ', -, -, h3⟩ := h; exact (hQ c e' σ' h3).elim
 · exact .inl ⟨by simp [Region.wanted], fun w' hw' => by rw [ha.ev]; exact hy w' hw'⟩
 exact h (E2 hD hrm hlt) (by simpa using hsz) _ _ (ha.put (by simpa using hd) v) hw
theorem BU {Q : Exit → Env → St → Prop} {σS : St} {ts : List Nat} {fuel : Nat} {listed : Array Bool} {e : Env} {σ : St} (i : Nat) {d : Nat} {op : Op} {ty : TypeId} {pos : String} {af : Array Edge}
   (hi : ops[i]? = some ⟨some d, op, ty, pos, af, none⟩) (hr : Region.ready .any ops listed = [i]) (hd : Nat.blt d n = true)
   (h : OpX P n B ⟨some d, op, ty, pos, af, none⟩ e σ fun v σ' => (ts.contains i = false → early ts listed = true → ∀ w, Holds B σ' w → Holds B σS w) ∧ WX P n B ops Q σS ts fuel (listed.setIfInBounds i true) (upd e d v) σ') : WX P n B ops Q σS ts (fuel + 1) listed e σ := by
 intro hD hsz a w ha hw
 have hrm : i ∈ Region.ready .any ops listed := by rw [hr]; simp
 have hlt : i < listed.size := by rw [hsz]; exact (Array.getElem?_eq_some_iff.1 hi).1
 refine ⟨fun h0 => (by rw [hr] at h0; cases h0), fun j hj => ?_⟩
 rw [hr] at hj
 simp only [List.mem_singleton] at hj
 subst hj
 unfold wpOp
 simp only [hi]
 rw [if_pos (by simp [Region.wanted])]
 exact .inl (h a w ha hw _ _ fun v σ' w' hK hw' => ⟨fun ht he => hK.1 ht he w' hw', hK.2 (E2 hD hrm hlt) (by simpa using hsz) _ _ (ha.put (by simpa using hd) v) hw'⟩)
theorem Eg {Q : Exit → Env → St → Prop} {σS : St} {ts : List Nat} {fuel : Nat} {listed : Array Bool} {e : Env} {σ : St} (i : Nat) {op : Op} {ty : TypeId} {pos : String} {af : Array Edge}
   (hi : ops[i]? = some ⟨none, op, ty, pos, af, none⟩) (hr : Region.ready .any ops listed = [i])
   (h : OpX P n B ⟨none, op, ty, pos, af, none⟩ e σ fun _ σ' => (ts.contains i = false → early ts listed = true → ∀ w, Holds B σ' w → Holds B σS w) ∧ WX P n B ops Q σS ts fuel (listed.setIfInBounds i true) e σ') : WX P n B ops Q σS ts (fuel + 1) listed e σ := by
 intro hD hsz a w ha hw
 have hrm : i ∈ Region.ready .any ops listed := by rw [hr]; simp
 have hlt : i < listed.size := by rw [hsz]; exact (Array.getElem?_eq_some_iff.1 hi).1
 refine ⟨fun h0 => (by rw [hr] at h0; cases h0), fun j hj => ?_⟩
 rw [hr] at hj
 simp only [List.mem_singleton] at hj
 subst hj
 unfold wpOp
 simp only [hi]
 rw [if_pos (by simp [Region.wanted])]
 exact .inl (h a w ha hw _ _ fun v σ' w' hK hw' => ⟨fun ht he => hK.1 ht he w' hw', hK.2 (E2 hD hrm hlt) (by simpa using hsz) _ _ ha hw'⟩)
theorem BC {Q : Exit → Env → St → Prop} {σS : St} {ts : List Nat} {listed : Array Bool} {e : Env} {σ : St} (hr : Region.ready .any ops listed = []) (h : Q .normal e σ) (fuel : Nat) : WX P n B ops Q σS ts fuel listed e σ := by
 intro _ _ a w ha hw
 cases fuel with
 | zero => exact ⟨hr, B.ds, e, σ, ha, hw, h⟩
 | succ f => exact ⟨fun _ => ⟨B.ds, e, σ, ha, hw, h⟩, by rw [hr]; simp⟩
end
end
section
open Go.RowKit
section
variable {P : Program} {n : Nat} {B : Base} {e : Env} {σ : St} {d : Option Nat} {ty : TypeId} {pos : String} {af : Array Edge} {gd : Option (Nat × Bool)}
def PartT (P : Program) (T f off ft : Nat) : Prop := ∃ fs fd, P.underlying T = some (.struct fs) ∧ fs[f]? = some fd ∧ fd.offset = off ∧ fd.type = ft
def partB (P : Program) (T f off ft : Nat) : Bool := match P.underlying T with
 | some (.struct fs) => (match fs[f]? with | some fd => fd.offset == off && fd.type == ft | none => false)
 | _ => false
theorem Um {T f off ft : Nat} (h : partB P T f off ft = true) : PartT P T f off ft := by
 unfold partB at h
 split at h <;> try (simp at h; done)
 split at h <;> simp at h
 exact ⟨_, _, by assumption, by assumption, h.1, h.2⟩
theorem Ug {T f off : Nat} {x : Operand} {l : List Value} {v : Value} {ft : Nat} (hT : PartT P T f off ft) (h1 : OneT P ft) (hx : ev e x = .agg l.toArray) (hv : l[off]? = some v) :
   OpR P B ⟨d, .field T x f, ty, pos, af, gd⟩ e σ v := q_field hT h1 hx hv
theorem B5 {T E s m : Nat} {z : Value} {zl l : List Value} {offs : List (Nat × Nat)} {xs : List (Nat × Operand)} {ps : List (Nat × List Value)} {K : Value → St → Prop} (hT : SliceT P T E s) (hz : ZeroT P E z)
   (hrow' : (List.range (m * s)).map (z.cells[· % z.cells.size]!) = zl) (hx : Pv e xs ps) (hoff : ∀ i p, offs[i]? = some p → p = (i * s, s)) (hf : FillL offs zl ps l) (h0 : m * s ≠ 0) (hbig : m * s ≤ 16777216)
   (hn : ∀ b, B.w0.heap.size ≤ b → σ.F b = none → K (.slice (some ⟨b, 0, none⟩) m m) ⟨σ.F, (b, bx E l) :: σ.H⟩) :
   OpX P n B ⟨d, .buildSlice T m xs.toArray, ty, pos, af, gd⟩ e σ K := .run fun w hw => by
 have hrow : (Array.range (m * s)).map (z.cells[· % z.cells.size]!) = zl.toArray := by
   rw [← hrow']; apply Array.ext'; simp
 have hs := BL (P := P) (T := E) (s := s) hT.2
 have hfill := hf.fill (place := fun i => some (i * s, s)) (fun i p hi => by rw [hoff i p hi]) (xs.map fun (p : Nat × Operand) => (p.1, ev e p.2)) hx.map
 refine ⟨_, _, _, .inl ?_, hw.alloc (bx E l), hn _ hw.size hw.fresh⟩
 have hbig' : ¬ (m * s > 2 ^ 24) := by omega
 simp only [execOp, Instr.buildSlice, Sem.run_bind, Bo hT.1, hs, Result.andThen_ok, if_neg hbig', if_neg h0, E0 hz, Sem.run_pure, hrow]
 simp only [List.map_toArray, List.toList_toArray] at *
 have e1 : (xs.map fun x => match x with | (i, x) => (i, ev e x)) = xs.map fun (p : Nat × Operand) => (p.1, ev e p.2) := by
   apply List.map_congr_left; intro p _; rfl
 rw [e1, hfill]
 simp [newRow, bx]
theorem BJ {c : Code} {Q : Exit → Env → St → Prop} {E s k : Nat} {v : Value} {cs : List Value} {R TT : List (Nat × Obj)} {f g : List (Nat × Obj) → List (Nat × Obj)} (hM : B.M = []) (hown : Own E s v k cs R) (hH : Hole σ.H TT f) (hR : Tail TT R g)
   (h : ∀ F', σ.F.le F' → (∀ p ∈ R, F' p.1 = some p.2) → WC P n B c Q e ⟨F', f (g [])⟩) : WC P n B c Q e σ := by
 obtain ⟨A, q1, q2⟩ := hH.eq
 obtain ⟨C, r1, r2⟩ := hR.eq
 rw [q2, r2] at h
 simp only [List.nil_append] at h
 match R, hown with
 | [], _ =>
   have := h σ.F (Heap.le_refl _) (by simp)
   have hs : σ = ⟨σ.F, A ++ C⟩ := by
     cases σ with
     | mk F H => simp only at q1; rw [q1, r1]; simp
   rw [hs]
   exact this
 | [(b, o)], _ =>
   intro ds a w ha hw
   have hi : σ.H[A.length]? = some (b, o) := by rw [q1, r1]; simp
   have hm := hw.own _ (List.mem_of_getElem? hi)
   have hb : B.w0.heap.size ≤ b := by
     rcases hm.2.2 with h1 | h1
     · exact h1
     rw [show (B.at ds).M = [] from hM] at h1; cases h1
   have hfz := hw.freeze hi hb
   have herase : σ.H.eraseIdx A.length = A ++ C := by
     rw [q1, r1, List.eraseIdx_append_of_length_le (Nat.le_refl _)]; simp
   rw [herase] at hfz
   exact h _ (DW hm.2.1) (fun p hp => by simp at hp; subst hp; exact Dn) ds a w ha hfz
theorem HW {x y : Operand} {a b c : Int} {m k : Nat} {t u : TypeId} (hx : ev e x = .int .i64 a) (hy : ev e y = .int .i64 b) (ha : a = (m : Int)) (hb : b = (k : Int)) (h1 : m < 9223372036854775808) (h2 : k < 9223372036854775808) (hc : ((m &&& k : Nat) : Int) = c) :
   OpR P B ⟨d, .binOp .and t x y u, ty, pos, af, gd⟩ e σ (.int .i64 c) := fun w _ => by
 subst ha; subst hb; subst hc
 have hle : m &&& k ≤ m := Nat.and_le_left
 have e1 : (BitVec.ofInt 64 (m : Int) &&& BitVec.ofInt 64 (k : Int)).toNat = m &&& k := by
   rw [BitVec.ofInt_natCast, BitVec.ofInt_natCast, BitVec.toNat_and, BitVec.toNat_ofNat, BitVec.toNat_ofNat, Nat.mod_eq_of_lt (by omega), Nat.mod_eq_of_lt (by omega)]
 have e2 : IntKind.i64.wrap ((m &&& k : Nat) : Int) = ((m &&& k : Nat) : Int) := EJ (by omega) (by omega)
 have e3 : Op.intBits .and .i64 (m : Int) (k : Int) = pure (.int .i64 (IntKind.i64.wrap ((BitVec.ofInt 64 (m : Int) &&& BitVec.ofInt 64 (k : Int)).toNat : Int))) := rfl
 rw [e1, e2] at e3
 simp only [execOp, hx, hy, eqGuard, binOp, e3]
 simp
theorem PH {x y : Operand} {a b c : Int} {m k : Nat} {t u : TypeId} (hx : ev e x = .int .i64 a) (hy : ev e y = .int .i64 b) (ha : a = (m : Int)) (hb : b = (k : Int)) (h1 : m < 9223372036854775808) (h2 : k < 9223372036854775808) (hc : ((m ||| k : Nat) : Int) = c) :
   OpR P B ⟨d, .binOp .or t x y u, ty, pos, af, gd⟩ e σ (.int .i64 c) := fun w _ => by
 subst ha; subst hb; subst hc
 have hle : m ||| k < 2 ^ 63 := Nat.or_lt_two_pow (by omega) (by omega)
 have e1 : (BitVec.ofInt 64 (m : Int) ||| BitVec.ofInt 64 (k : Int)).toNat = m ||| k := by
   rw [BitVec.ofInt_natCast, BitVec.ofInt_natCast, BitVec.toNat_or, BitVec.toNat_ofNat, BitVec.toNat_ofNat, Nat.mod_eq_of_lt (by omega), Nat.mod_eq_of_lt (by omega)]
 have e2 : IntKind.i64.wrap ((m ||| k : Nat) : Int) = ((m ||| k : Nat) : Int) := EJ (by omega) (by omega)
 have e3 : Op.intBits .or .i64 (m : Int) (k : Int) = pure (.int .i64 (IntKind.i64.wrap ((BitVec.ofInt 64 (m : Int) ||| BitVec.ofInt 64 (k : Int)).toNat : Int))) := rfl
 rw [e1, e2] at e3
 simp only [execOp, hx, hy, eqGuard, binOp, e3]
 simp
theorem HV {x y : Operand} {a b : Int} {k : IntKind} {t u : TypeId} (hx : ev e x = .int k a) (hy : ev e y = .int k b) (ha : 0 ≤ a) (hb : 0 < b) :
   OpR P B ⟨d, .binOp .rem t x y u, ty, pos, af, gd⟩ e σ (.int k (a % b)) := fun w _ => by
 have h0 : ¬ b = 0 := by omega
 simp [execOp, hx, hy, eqGuard, binOp, Op.intDiv, h0, Int.tmod_eq_emod_of_nonneg ha]
theorem Ff {S D : Nat} {x : Operand} {a c : Int} {k k' : IntKind} (hS : ∃ k0, P.underlying S = some (.int k0)) (hD : P.underlying D = some (.int k')) (hx : ev e x = .int k a) (hc : k'.wrap a = c) :
   OpR P B ⟨d, .convert S D x, ty, pos, af, gd⟩ e σ (.int k' c) := fun w _ => by
 obtain ⟨k0, hS⟩ := hS
 subst hc
 simp [execOp, hx, convert, Bo hS, Bo hD, Conv.intToInt]
theorem HG {c : Code} {K : Env → St → Prop} {Q : Exit → Env → St → Prop} {e0 : Env} {σ0 : St} (M : List Nat) (I : Env → St → Prop)
   (h : WC P n B c (thenE (fun e' σ' => ∃ s, e' = over M s e0 ∧ I s σ') Q) e0 σ0) (hK : ∀ s σ, I s σ → K (over M s e0) σ) : WC P n B c (thenE K Q) e0 σ0 := by
 intro ds a w ha hw
 refine wpIn_mono (h ds a w ha hw) fun x a' w' hq => ?_
 obtain ⟨ds', e', σ', h1, h2, h3⟩ := hq
 refine ⟨ds', e', σ', h1, h2, ?_⟩
 cases x with
 | normal => obtain ⟨s, rfl, hI⟩ := h3; exact hK s σ' hI
 | _ => exact h3
theorem BO {id : Nat} {l : List Oper} {Q : Exit → Env → St → Prop} {H' : List (Nat × Obj)} (hp : Plainly B.ro l) (hO : ∀ e σ, Q .outgrown e σ → False) (_hs : H'.Sublist σ.H) (ts : List Nat) (hm : P.follows .mixedOrders = true)
   (h : ∀ ds, WX P n (B.at ds) l.toArray Q ⟨σ.F, H'⟩ ts l.length (Array.replicate l.length false) e σ) : WC P n B (.region id l.toArray true) Q e σ := We hp hO _ ts hm h
variable {ops : Array Oper}
def WXop (P : Program) (n : Nat) (B : Base) (ops : Array Oper) (Q : Exit → Env → St → Prop) (σS : St) (ts : List Nat) (fuel : Nat) (listed : Array Bool) (i : Nat) (e : Env) (σ : St) : Prop :=
 Down ops listed → listed.size = ops.size → i ∈ Region.ready .any ops listed → ∀ a w, Fits n B a e → Holds B σ w → wpOp P ops (lift n B Q) i (fun a' w' => (ts.contains i = false → early ts listed = true → Holds B σS w') ∧ wpAnyT P ops (lift n B Q) (Holds B σS) ts fuel (listed.setIfInBounds i true) a' w') a w
theorem D9 {Q : Exit → Env → St → Prop} {σS : St} {ts : List Nat} {fuel : Nat} {listed : Array Bool} (l : List Nat) (hr : Region.ready .any ops listed = l) (hne : l ≠ []) (h : ∀ i ∈ l, WXop P n B ops Q σS ts fuel listed i e σ) : WX P n B ops Q σS ts (fuel + 1) listed e σ := by
 intro hD hsz a w ha hw
 subst hr
 exact ⟨fun h0 => absurd h0 hne, fun i hi => h i hi hD hsz hi a w ha hw⟩
theorem C0 {Q : Exit → Env → St → Prop} {σS : St} {ts : List Nat} {fuel : Nat} {listed : Array Bool} {i : Nat} {d : Nat} {op : Op} {ty : TypeId} {pos : String} {af : Array Edge}
   (hi : ops[i]? = some ⟨some d, op, ty, pos, af, none⟩) (hd : Nat.blt d n = true)
   (h : OpX P n B ⟨some d, op, ty, pos, af, none⟩ e σ fun v σ' => (ts.contains i = false → early ts listed = true → ∀ w, Holds B σ' w → Holds B σS w) ∧ WX P n B ops Q σS ts fuel (listed.setIfInBounds i true) (upd e d v) σ') : WXop P n B ops Q σS ts fuel listed i e σ := by
 intro hD hsz hrm a w ha hw
 have hlt : i < listed.size := by rw [hsz]; exact (Array.getElem?_eq_some_iff.1 hi).1
 unfold wpOp
 simp only [hi]
 rw [if_pos (by simp [Region.wanted])]
 exact .inl (h a w ha hw _ _ fun v σ' w' hK hw' => ⟨fun ht he => hK.1 ht he w' hw', hK.2 (E2 hD hrm hlt) (by simpa using hsz) _ _ (ha.put (by simpa using hd) v) hw'⟩)
theorem UH {p : Nat → Prop} {i j : Nat} (h1 : p i) (h2 : p j) : ∀ x ∈ [i, j], p x := by simp [h1, h2]
theorem Holds.perm {w : World} (h : Holds B σ w) {H' : List (Nat × Obj)} (hp : ∀ p ∈ H', p ∈ σ.H) (hd : (σ.H.map (·.1)).Nodup → (H'.map (·.1)).Nodup) : Holds B ⟨σ.F, H'⟩ w :=
 ⟨h.os, h.tape, h.output, h.size, h.old, h.sub, fun p hp' => h.own p (hp p hp'), hd h.nodup, h.ext, h.le, h.marks_sub (fun k hk => by obtain ⟨p, hp', rfl⟩ := List.mem_map.1 hk; exact List.mem_map_of_mem (hp p hp')), h.dnodup⟩
end
end
section
open Go.RowKit
section
variable {P : Program} {n : Nat} {B : Base} {e : Env} {σ : St}
inductive Out {α : Type} (p : α) : List α → List α → Prop
 | here {us : List α} : Out p (p :: us) us
 | next {u : α} {us us' : List α} : Out p us us' → Out p (u :: us) (u :: us')
theorem Out.perm {α : Type} {p : α} {H H1 : List α} (h : Out p H H1) : H.Perm (p :: H1) := by
 induction h with
 | here => exact .refl _
 | next _ ih => exact (ih.cons _).trans (.swap _ _ _)
inductive Pick {α : Type} : List α → List α → Prop
 | nil {H : List α} : Pick H []
 | all {H : List α} : Pick H H
 | cons {p : α} {H H1 H' : List α} : Out p H H1 → Pick H1 H' → Pick H (p :: H')
theorem Pick.sub {α : Type} {H H' : List α} (h : Pick H H') : ∃ D, H.Perm (H' ++ D) := by
 induction h with
 | @nil H => exact ⟨H, by simp⟩
 | all => exact ⟨[], by simp⟩
 | cons ho _ ih => obtain ⟨D, hD⟩ := ih; exact ⟨D, ho.perm.trans (hD.cons _)⟩
theorem Holds.pick {w : World} (h : Holds B σ w) {H' : List (Nat × Obj)} (hp : Pick σ.H H') : Holds B ⟨σ.F, H'⟩ w := by
 obtain ⟨D, hD⟩ := hp.sub
 refine h.perm (fun p hm => hD.symm.mem_iff.1 (List.mem_append_left _ hm)) fun hn => ?_
 have := (hD.map (·.1)).nodup_iff.1 hn
 rw [List.map_append, List.nodup_append] at this
 exact this.1
theorem Oh {c : Code} {Q : Exit → Env → St → Prop} {H' : List (Nat × Obj)} (hp : Pick σ.H H') (h : WC P n B c Q e ⟨σ.F, H'⟩) : WC P n B c Q e σ := Bn (fun _ _ hw => hw.pick hp) h
variable {ops : Array Oper}
theorem Wc {Q : Exit → Env → St → Prop} {σS σ' : St} {ts : List Nat} {fuel : Nat} {listed : Array Bool} (hs : ∀ w, Holds B σ w → Holds B σ' w) (h : WX P n B ops Q σS ts fuel listed e σ') : WX P n B ops Q σS ts fuel listed e σ :=
 fun h1 h2 a w ha hw => h h1 h2 a w ha (hs w hw)
theorem P0 {Q : Exit → Env → St → Prop} {σS : St} {ts : List Nat} {fuel : Nat} {listed : Array Bool} {H' : List (Nat × Obj)} (hp : Pick σ.H H') (h : WX P n B ops Q σS ts fuel listed e ⟨σ.F, H'⟩) : WX P n B ops Q σS ts fuel listed e σ := Wc (fun _ hw => hw.pick hp) h
theorem Holds.freezeR {w : World} (hw : Holds B σ w) {E s k : Nat} {v : Value} {cs : List Value} {R TT : List (Nat × Obj)} {f g : List (Nat × Obj) → List (Nat × Obj)} (hM : B.M = []) (hown : Own E s v k cs R) (hH : Hole σ.H TT f) (hR : Tail TT R g) :
   ∃ F', σ.F.le F' ∧ (∀ p ∈ R, F' p.1 = some p.2) ∧ Holds B ⟨F', f (g [])⟩ w := by
 obtain ⟨A, q1, q2⟩ := hH.eq
 obtain ⟨C, r1, r2⟩ := hR.eq
 rw [q2, r2]
 simp only [List.nil_append]
 match R, hown with
 | [], _ =>
   have hs : σ = ⟨σ.F, A ++ C⟩ := by
     cases σ with
     | mk F H => simp only at q1; rw [q1, r1]; simp
   exact ⟨σ.F, Heap.le_refl _, by simp, by rw [← hs]; exact hw⟩
 | [(b, o)], _ =>
   have hi : σ.H[A.length]? = some (b, o) := by rw [q1, r1]; simp
   have hm := hw.own _ (List.mem_of_getElem? hi)
   have hb : B.w0.heap.size ≤ b := by
     rcases hm.2.2 with h1 | h1
     · exact h1
     rw [hM] at h1; cases h1
   have hfz := hw.freeze hi hb
   have herase : σ.H.eraseIdx A.length = A ++ C := by
     rw [q1, r1, List.eraseIdx_append_of_length_le (Nat.le_refl _)]; simp
   rw [herase] at hfz
   exact ⟨_, DW hm.2.1, fun p hp => by simp at hp; subst hp; exact Dn, hfz⟩
theorem EH {Q : Exit → Env → St → Prop} {l : List Oper} {E s k : Nat} {v : Value} {cs : List Value} {R TT : List (Nat × Obj)} {f g : List (Nat × Obj) → List (Nat × Obj)} (hM : B.M = []) (hown : Own E s v k cs R) (hH : Hole σ.H TT f) (hR : Tail TT R g)
   (h : ∀ F', σ.F.le F' → (∀ p ∈ R, F' p.1 = some p.2) → WL P n B ops Q l e ⟨F', f (g [])⟩) : WL P n B ops Q l e σ := fun a w ha hw => by
 obtain ⟨F', k1, k2, k3⟩ := hw.freezeR hM hown hH hR
 exact h F' k1 k2 a w ha k3
theorem Cell.ownM {F : Heap} {H : List (Nat × Obj)} {b k T : Nat} {l : List Value} {v : Value} (hi : (b, bx T l) ∈ H) (hc : l[k]? = some v) : Cell ⟨F, H⟩ ⟨b, k, none⟩ v :=
 ⟨rfl, l.toArray, T, (0, 0), .inr hi, by simpa using hc⟩
theorem PQ {F : Heap} {H : List (Nat × Obj)} {b T : Nat} {l : List Value} (hi : (b, bx T l) ∈ H) : ∀ j v, l[j]? = some v → Cell ⟨F, H⟩ (addc ⟨b, 0, none⟩ j) v := fun j v hj => by
 have : addc (⟨b, 0, none⟩ : Addr) j = ⟨b, j, none⟩ := by simp [addc]
 rw [this]; exact Cell.ownM hi hj
end
end
section
open Go.RowKit
section
variable {P : Program} {n : Nat} {B : Base} {e : Env} {σ : St} {d : Option Nat} {ty : TypeId} {pos : String} {af : Array Edge} {gd : Option (Nat × Bool)}
theorem Dq {fn : Func} {R : Value → Heap → List (Nat × Obj) → Prop} {rs : List ResultVar} {vs : List Value} {H' : List (Nat × Obj)} (hr : fn.results = rs.toArray) (hv : Rv P e σ rs vs) (hp : Pick σ.H H') (hk : keys H' = B.M) (hR : R (outOf vs) σ.F H') :
   PostE P fn B R .ret e σ := ⟨rs, vs, σ.F, H', hr, hv, fun _ _ h => h.pick hp, hk, hR⟩
theorem Nn {T E s i b m c TB : Nat} {x y : Operand} {u : Value} {l news : List Value} {H' : List (Nat × Obj)} {K : Value → St → Prop} {ts : Array TypeId} (hts : ts[0]? = some T) (hT : SliceT P T E s) (hx : ev e x = .slice (some ⟨b, 0, none⟩) m c) (hy : ev e y = u)
   (hi : σ.H[i]? = some (b, bx TB l)) (hl : l.length = m * s) (hsrc : Src σ u m news s) (hH : SetL σ.H i (b, bx TB news) H') (hn : K (.int .i64 m) ⟨σ.F, H'⟩) :
   OpX P n B ⟨d, .call ⟨.builtin .copy, #[x, y], ts⟩, ty, pos, af, gd⟩ e σ K := .run fun w hw => by
 have hb := (hw.own _ (List.mem_of_getElem? hi)).1
 have hlen := hsrc.len (P := P) w
 have hcells := hsrc.run (P := P) hw
 obtain ⟨h1, h2, -⟩ := hsrc
 obtain ⟨w', e1, e2, e3, e4, e5, e6, e7⟩ := D0 (P := P) news 0 0 l.toArray w hb (by simp; omega) h2
 have hset := J9 news [] l (by omega)
 simp only [List.nil_append, List.length_nil] at hset
 rw [Nat.zero_add, hset] at e6
 have hs := BL (P := P) (T := E) (s := s) hT.2
 rw [hH.eq.1] at hn
 have hmin : Nat.min m m = m := Nat.min_self m
 refine ⟨_, _, _, .inl ?_, hw.write hi e2 e3 e4 e5 e6 e7, hn⟩
 simp only [execOp, resolve, invoke, builtin, Builtin.copy_]
 simp [Bo hT.1, hs, hlen, hcells, hmin, e1, goInt, hts, hx, hy]
end
end
section
open Go.RowKit
section
variable {P : Program} {n : Nat} {B : Base} {e : Env} {σ : St} {d : Option Nat} {ty : TypeId} {pos : String} {af : Array Edge} {gd : Option (Nat × Bool)}
theorem Dv {T E s k j : Nat} {x y : Operand} {v u : Value} {cs : List Value} {R TT : List (Nat × Obj)} {f g : List (Nat × Obj) → List (Nat × Obj)} {K : Value → St → Prop} (hT : SizeT P T 1) (hx : ev e x = .pointer (some (addc (base v) j))) (hy : ev e y = u)
   (hown : Own E s v k cs R) (hj : j < cs.length) (h1 : u.oneCell' = true) (hH : Hole σ.H TT f) (hR : Tail TT R g) (hn : ∀ R', Own E s v k (cs.set j u) R' → K undef ⟨σ.F, f (g R')⟩) : OpX P n B ⟨d, .store T x y, ty, pos, af, gd⟩ e σ K := .run fun w hw => by
 obtain ⟨A, q1, q2⟩ := hH.eq
 obtain ⟨C, r1, r2⟩ := hR.eq
 match R, hown with
 | [], h => obtain ⟨-, -, rfl⟩ := h; simp at hj
 | [(b, o)], h =>
   obtain ⟨cap, spare, rfl, rfl, h3, h4, h5⟩ := h
   have hH' : σ.H = A ++ ([(b, bx E (cs ++ spare))] ++ C) := by rw [q1, r1]
   have hb := (hw.own (b, bx E (cs ++ spare)) (by rw [hH']; simp)).1
   obtain ⟨w', e1, e2, e3, e4, e5, e6, e7⟩ := Hm (P := P) (v := u) hb (show j < (cs ++ spare).length by simp; omega) h1
   have hset : (cs ++ spare).set j u = cs.set j u ++ spare := List.set_append_left _ _ hj
   rw [hset] at e6
   have had : addc (base (.slice (some ⟨b, 0, none⟩) k cap)) j = ⟨b, j, none⟩ := by simp [addc, base]
   rw [had] at hx
   have hrun : (execOp (ev e) ⟨d, .store T x y, ty, pos, af, gd⟩).run P w = .ok .skip w' := by
     simp [execOp, hx, hy, Instr.storeAt, Instr.sureAddr, storeVar, B9 h1, BL hT, e1]
   have hnew := hn [(b, bx E (cs.set j u ++ spare))] ⟨cap, spare, rfl, rfl, by simpa using h3, by simpa using h4, h5⟩
   rw [r2, q2] at hnew
   exact ⟨_, _, _, .inr ⟨hrun, rfl⟩, hw.rewrite hH' e2 e3 e4 e5 e6 e7, hnew⟩
end
end
section
open Go.RowKit
def loopO (fn : FuncId) (tm : Array Value) (ps : Array Tmp) (assign body : Code) (D : Nat) (st : LoopState) (pe : Option Code) : Obj := .loop { state := st, pending := pe, fn := fn, tmps := tm, params := ps, assign := assign, body := body, defers := D }
def openO : Obj := .deferred (some [])
def OkY (P : Program) (l : Nat) (args : List Value) (F : Heap) (H : List (Nat × Obj)) (R : Value → Heap → List (Nat × Obj) → Prop) : Prop :=
 ∀ w, Sub F w → (∀ p ∈ H, w.heap[p.1]? = some p.2 ∧ F p.1 = none) → (keys H).Nodup →
   ∃ fn tmps assign body, (Instr.yield l args.toArray).run P w = .ok (.round l fn tmps assign body) w ∧
     RoundIn Fence.wide 0 P l fn tmps assign body w fun r w' => ∃ v F' H', r = .returned v ∧ Grow w F (keys H) w' F' ∧ keys H' = keys H ∧ (∀ p ∈ H', w'.heap[p.1]? = some p.2) ∧ R v F' H'
theorem OkY.mono {P : Program} {l : Nat} {args : List Value} {F : Heap} {H : List (Nat × Obj)} {R R' : Value → Heap → List (Nat × Obj) → Prop} (h : OkY P l args F H R) (hr : ∀ v F' H', F.le F' → keys H' = keys H → R v F' H' → R' v F' H') : OkY P l args F H R' := by
 intro w h1 h2 h3
 obtain ⟨fn, tm, as1, bo, hy, hR⟩ := h w h1 h2 h3
 refine ⟨fn, tm, as1, bo, hy, hR.mono fun r w' hq => ?_⟩
 obtain ⟨v, F', H', q1, q2, q3, q4, q5⟩ := hq
 exact ⟨v, F', H', q1, q2, q3, q4, hr v F' H' q2.le q3 q5⟩
section
variable {P : Program} {n : Nat} {B : Base} {e : Env} {σ : St} {ty : TypeId} {pos : String} {af : Array Edge}
def WI (P : Program) (n : Nat) (B : Base) (ops : Array Oper) (Q : Exit → Env → St → Prop) (l : List Oper) (e : Env) (σ : St) : Prop :=
 ∀ a w, Fits n B a e → Holds B σ w → wpListIn (fence B.ro) 0 P ops (lift n B Q) l a w
theorem DN {id : Nat} {l : List Oper} {Q : Exit → Env → St → Prop} (h : ∀ ds, WI P n (B.at ds) l.toArray Q l e σ) : WC P n B (.region id l.toArray false) Q e σ :=
 fun ds a w ha hw => wpIn_region_lit (h ds a w ha hw)
theorem JU {ops : Array Oper} {Q : Exit → Env → St → Prop} (h : Q .normal e σ) : WI P n B ops Q [] e σ := fun _ _ ha hw => ⟨B.ds, e, σ, ha, hw, h⟩
theorem WI_x {ops : Array Oper} {Q : Exit → Env → St → Prop} {rest : List Oper} {d : Nat} {op : Op} (hd : Nat.blt d n = true) (hp : isDefer op = false) (h : OpX P n B ⟨some d, op, ty, pos, af, none⟩ e σ fun v σ' => WI P n B ops Q rest (upd e d v) σ') : WI P n B ops Q (⟨some d, op, ty, pos, af, none⟩ :: rest) e σ := by
 intro a w ha hw
 unfold wpListIn
 rw [if_pos (by simp [Region.wanted])]
 exact T5 (.inr hp) (fun _ _ h => h) (h a w ha hw _ (lift n B Q) fun v σ' w' hK hw' => hK _ _ (ha.put (by simpa using hd) v) hw')
theorem WI_c {ops : Array Oper} {Q : Exit → Env → St → Prop} {rest : List Oper} {d : Nat} {op : Op} {v : Value} (hd : Nat.blt d n = true) (hp : isDefer op = false) (h : OpQ P n B ⟨some d, op, ty, pos, af, none⟩ e σ v) (hn : WI P n B ops Q rest (upd e d v) σ) : WI P n B ops Q (⟨some d, op, ty, pos, af, none⟩ :: rest) e σ :=
 WI_x hd hp (Be h hn)
theorem Du {ops : Array Oper} {Q : Exit → Env → St → Prop} {rest : List Oper} {d : Nat} {op : Op} {v : Value} (hd : Nat.blt d n = true) (hp : isDefer op = false) (h : OpR P B ⟨some d, op, ty, pos, af, none⟩ e σ v) (hn : WI P n B ops Q rest (upd e d v) σ) : WI P n B ops Q (⟨some d, op, ty, pos, af, none⟩ :: rest) e σ :=
 WI_c hd hp h.quiet hn
theorem KO {ops : Array Oper} {Q : Exit → Env → St → Prop} {rest : List Oper} {d : Option Nat} {op : Op} {j dj : Nat} {b c : Bool}
   (hj : (ops[j]?).bind (·.dst) = some dj) (hd : Nat.blt dj n = true) (hv : ev e (.tmp dj) = .bool c) (hc : c = b)
   (h : WI P n B ops Q (⟨d, op, ty, pos, af, none⟩ :: rest) e σ) : WI P n B ops Q (⟨d, op, ty, pos, af, some (j, b)⟩ :: rest) e σ := by
 intro a w ha hw
 have := h a w ha hw
 unfold wpListIn at this ⊢
 rw [if_pos (by simp [Region.wanted])] at this
 rw [if_pos (Fu ha hj hd hv hc)]
 exact this
theorem KP {ops : Array Oper} {Q : Exit → Env → St → Prop} {rest : List Oper} {d : Nat} {op : Op} {j dj : Nat} {b : Bool} {u : Value}
   (hj : (ops[j]?).bind (·.dst) = some dj) (hd : Nat.blt dj n = true) (hv : ev e (.tmp dj) = u) (hc : u = .bool (!b) ∨ u = undef) (hdd : Nat.blt d n = true)
   (h : WI P n B ops Q rest (upd e d undef) σ) : WI P n B ops Q (⟨some d, op, ty, pos, af, some (j, b)⟩ :: rest) e σ := by
 intro a w ha hw
 unfold wpListIn
 rw [if_neg (by rw [J5 ha hj hd hv hc]; simp)]
 exact ⟨fun _ _ => trivial, h _ _ (ha.put (by simpa using hdd) undef) hw⟩
theorem Holds.toMark {w : World} {F : Heap} {D : Nat} {H : List (Nat × Obj)} (h : Holds B ⟨F, (D, openO) :: H⟩ w) (hD : B.w0.heap.size ≤ D) : Holds (B.at (D :: B.ds)) ⟨F, H⟩ w := by
 have hnd := h.nodup
 simp only [List.map_cons, List.nodup_cons] at hnd
 refine ⟨h.os, h.tape, h.output, h.size, h.old, h.sub, fun p hp => h.own p (List.mem_cons_of_mem _ hp), hnd.2, h.ext, h.le, fun D' hD' => ?_, ?_⟩
 · rcases List.mem_cons.1 hD' with rfl | hD'
   · obtain ⟨h1, h2, h3⟩ := h.own (D', openO) (by simp)
     exact ⟨h1, h2, hD, hnd.1⟩
   obtain ⟨k1, k2, k3, k4⟩ := h.marks D' hD'
   exact ⟨k1, k2, k3, fun hm => k4 (by simp only [List.map_cons, List.mem_cons]; exact .inr hm)⟩
 show (D :: B.ds).Nodup
 refine List.nodup_cons.2 ⟨fun hm => ?_, h.dnodup⟩
 exact (h.marks D hm).2.2.2 (by simp)
def updL (e : Env) (pv : List (Nat × Value)) : Env := pv.foldl (fun e p => upd e p.1 p.2) e
theorem MI {B : Base} : ∀ (pv : List (Nat × Value)) (tm : Array Value) (e : Env), tm.size = n → (∀ t, tm.getD t undef = e t) → pv.all (fun p => Nat.blt p.1 n) = true →
   (pv.foldl (fun tm p => tm.setIfInBounds p.1 p.2) tm).size = n ∧ ∀ t, (pv.foldl (fun tm p => tm.setIfInBounds p.1 p.2) tm).getD t undef = updL e pv t
 | [], tm, e, h1, h2, _ => ⟨h1, h2⟩
 | p :: pv, tm, e, h1, h2, h3 => by
   simp only [List.all_cons, Bool.and_eq_true] at h3
   have hp : p.1 < n := by simpa using h3.1
   refine MI (B := B) pv _ (upd e p.1 p.2) (by simpa using h1) (fun t => ?_) h3.2
   unfold upd
   by_cases ht : t = p.1
   · subst ht; simp [h1, hp]
   rw [if_neg ht, ← h2 t]
   simp [Array.getElem?_setIfInBounds_ne (Ne.symm ht)]
theorem Heap.le.mono {F G K : Heap} (h : F.le G) (hF : G.le K) : F.le K := Heap.le_trans h hF
def RoundR {α : Type} (F0 : Heap) (L D : Nat) (lo : LoopState → Option Code → Obj) (J : List α → Heap → List (Nat × Obj) → Prop) (Jx : Code → Heap → List (Nat × Obj) → Prop) (xs : List α) (v : Value) (F' : Heap) (H' : List (Nat × Obj)) : Prop :=
 v = .bool true ∧ (∃ H2, H' = (L, lo .ready none) :: (D, openO) :: H2 ∧ F0.le F' ∧ J xs F' H2) ∨
 v = .bool false ∧ (∃ c H2, H' = (L, lo .done (some c)) :: (D, openO) :: H2 ∧ F0.le F' ∧ Jx c F' H2)
theorem He {v : Value} {A C : Prop} (h : v = .bool true ∧ A ∨ v = .bool false ∧ C) : ∃ b, v = .bool b ∧ (b = true ∧ A ∨ b = false ∧ C) :=
 h.elim (fun h => ⟨true, h.1, .inl ⟨rfl, h.2⟩⟩) (fun h => ⟨false, h.1, .inr ⟨rfl, h.2⟩⟩)
end
end
section
open Go.RowKit
class Fct (s : Env) (t : Nat) (v : outParam Value) : Prop where
 eq : s t = v
class Lk (e : Env) (x : Operand) (v : outParam Value) (c : outParam Bool) : Prop where
 h : c = false → ev e x = v
class GetI {α : Type} (l : List α) (i : Nat) (v : outParam α) : Prop where
 h : l[i]? = some v
instance getI0 {α : Type} {l : List α} {v : α} : GetI (v :: l) 0 v := ⟨rfl⟩
instance getI1 {α : Type} {l : List α} {u v : α} {i : Nat} [g : GetI l i v] : GetI (u :: l) (i + 1) v := ⟨by have := g.h; simpa using this⟩
class DropI {α : Type} (l : List α) (i : Nat) (l' : outParam (List α)) : Prop where
 h : l.drop i = l'
instance dropI0 {α : Type} {l : List α} : DropI l 0 l := ⟨rfl⟩
instance dropI1 {α : Type} {l l' : List α} {u : α} {i : Nat} [g : DropI l i l'] : DropI (u :: l) (i + 1) l' := ⟨by have := g.h; simpa using this⟩
instance dropI2 {α : Type} {l l' l'' : List α} {a b : Nat} [g : DropI l a l'] [g' : DropI l' b l''] : DropI l (a + b) l'' := ⟨by rw [← List.drop_drop, g.h, g'.h]⟩
instance getI2 {α : Type} {l l' : List α} {v : α} {a b : Nat} [g : DropI l a l'] [g' : GetI l' b v] : GetI l (a + b) v := ⟨by have := g'.h; rw [← g.h, List.getElem?_drop] at this; exact this⟩
instance getI3 {α : Type} {l : List α} {v : α} {a : Nat} [g : GetI l a v] : GetI l (a * 1) v := ⟨by rw [Nat.mul_one]; exact g.h⟩
theorem Cl {a b : Bool} (h : (a || b) = false) : a = false ∧ b = false := Bool.or_eq_false_iff.1 h
instance (priority := 1100) lkI0 {e : Env} {d : Nat} {v : Value} : Lk (upd e d v) (.tmp d) v false := ⟨fun _ => QW⟩
instance lkI1 {e : Env} {d t : Nat} {u v : Value} {c : Bool} [g : Lk e (.tmp t) u c] : Lk (upd e d v) (.tmp t) u (Nat.beq t d || c) := ⟨fun hc => QV (Cl hc).1 (g.h (Cl hc).2)⟩
instance lkI2 {e : Env} {v : Value} : Lk e (.const v) v false := ⟨fun _ => rfl⟩
instance lkI3 {e : Env} {f : Nat} : Lk e (.func f) (.func (.func f) #[] #[]) false := ⟨fun _ => rfl⟩
instance (priority := 1100) lkI4 {M : List Nat} {s e : Env} {t : Nat} {v : Value} [g : Fct s t v] : Lk (over M s e) (.tmp t) v (!(M.contains t)) := ⟨fun hc => lk_in (by simpa using hc) g.eq⟩
instance lkI5 {M : List Nat} {s e : Env} {t : Nat} {u : Value} {c : Bool} [g : Lk e (.tmp t) u c] : Lk (over M s e) (.tmp t) u (M.contains t || c) := ⟨fun hc => lk_off (Cl hc).1 (g.h (Cl hc).2)⟩
instance lkI6 {args : List Value} {t : Nat} {v : Value} [g : GetI args t v] : Lk (fun t => args.getD t undef) (.tmp t) v false := ⟨fun _ => U8 g.h⟩
theorem Aa {e : Env} {x : Operand} {v : Value} {c : Bool} [g : Lk e x v c] (hc : c = false := by rfl) : ev e x = v := g.h hc
def Fcu (s : Env) (t : Nat) (v : Value) : Prop := Fct s t v
theorem AX {e : Env} {t : Nat} {v : Value} {c : Bool} [g : Lk e (.tmp t) v c] (hc : c = false := by rfl) : Fct e t v := ⟨g.h hc⟩
theorem Cr {e : Env} {t : Nat} {u v : Value} {c : Bool} [g : Lk e (.tmp t) u c] (h : u = v) (hc : c = false := by rfl) : Fct e t v := ⟨(g.h hc).trans h⟩
class AvI (e : Env) (xs : List Operand) (vs : outParam (List Value)) (c : outParam Bool) : Prop where
 h : c = false → Av e xs vs
instance avI0 {e : Env} : AvI e [] [] false := ⟨fun _ => .nil⟩
instance avI1 {e : Env} {x : Operand} {xs : List Operand} {v : Value} {vs : List Value} {c c' : Bool} [g : Lk e x v c] [g' : AvI e xs vs c'] : AvI e (x :: xs) (v :: vs) (c || c') := ⟨fun hc => .cons (g.h (Cl hc).1) (g'.h (Cl hc).2)⟩
theorem AW {e : Env} {xs : List Operand} {vs : List Value} {c : Bool} [g : AvI e xs vs c] (hc : c = false := by rfl) : Av e xs vs := g.h hc
class RvI (P : Program) (e : Env) (σ : St) (rs : List ResultVar) (vs : outParam (List Value)) (c : outParam Bool) : Prop where
 h : c = false → Rv P e σ rs vs
instance rvI0 {P : Program} {e : Env} {σ : St} : RvI P e σ [] [] false := ⟨fun _ => .nil⟩
instance rvI1 {P : Program} {e : Env} {σ : St} {t : Nat} {v : Value} {rs : List ResultVar} {vs : List Value} {c c' : Bool} [g : Lk e (.tmp t) v c] [g' : RvI P e σ rs vs c'] : RvI P e σ (.tmp t :: rs) (v :: vs) (c || c') := ⟨fun hc => .tmp (g.h (Cl hc).1) (g'.h (Cl hc).2)⟩
theorem Bd {P : Program} {e : Env} {σ : St} {rs : List ResultVar} {vs : List Value} {c : Bool} [g : RvI P e σ rs vs c] (hc : c = false := by rfl) : Rv P e σ rs vs := g.h hc
class BlkI (σ : St) (b : Nat) (l : outParam (List Value)) : Prop where
 h : ∃ T, (b, bx T l) ∈ σ.H
instance (priority := 1100) blkI0 {F : Heap} {b T : Nat} {l : List Value} {H : List (Nat × Obj)} : BlkI ⟨F, (b, bx T l) :: H⟩ b l := ⟨T, .head _⟩
instance blkI1 {F : Heap} {b : Nat} {l : List Value} {p : Nat × Obj} {H : List (Nat × Obj)} [g : BlkI ⟨F, H⟩ b l] : BlkI ⟨F, p :: H⟩ b l := ⟨g.h.elim fun T h => ⟨T, .tail _ h⟩⟩
instance blkI2 {F : Heap} {b : Nat} {l : List Value} {R H : List (Nat × Obj)} [g : BlkI ⟨F, H⟩ b l] : BlkI ⟨F, R ++ H⟩ b l := ⟨g.h.elim fun T h => ⟨T, List.mem_append_right _ h⟩⟩
instance (priority := 900) blkI3 {F : Heap} {b : Nat} {l : List Value} {R H : List (Nat × Obj)} [g : BlkI ⟨F, R⟩ b l] : BlkI ⟨F, R ++ H⟩ b l := ⟨g.h.elim fun T h => ⟨T, List.mem_append_left _ h⟩⟩
theorem Vv {σ : St} {b k : Nat} {l : List Value} {v : Value} (h : ∃ T, (b, bx T l) ∈ σ.H) (hv : l[k]? = some v) : Cell σ ⟨b, k, none⟩ v := by
 obtain ⟨T, h⟩ := h
 cases σ; exact Cell.ownM h hv
theorem Tc {σ : St} {b : Nat} {l : List Value} (h : ∃ T, (b, bx T l) ∈ σ.H) : ∀ j v, l[j]? = some v → Cell σ (addc ⟨b, 0, none⟩ j) v := by
 obtain ⟨T, h⟩ := h
 cases σ; exact PQ h
theorem AA {F : Heap} {H : List (Nat × Obj)} {b k T : Nat} {l : List Value} {v : Value} (hi : F b = some (bx T l)) (hc : l[k]? = some v) : Cell ⟨F, H⟩ ⟨b, k, none⟩ v := (CellF.own hi hc).cell
class SliceI (P : Program) (T : Nat) : Prop where
 h : ∃ E s, SliceT P T E s
class FieldI (P : Program) (T f : Nat) (off : outParam Nat) : Prop where
 h : FieldT P T f off
class OneI (P : Program) (T : Nat) : Prop where
 h : OneT P T
class AggI (P : Program) (T : Nat) (s : outParam Nat) : Prop where
 h : AggT P T s
class OpI (P : Program) (o : Oper) (e : Env) (σ : St) (v : outParam Value) (c : outParam Bool) : Prop where
 h : c = false → ∀ {B : Base}, OpR P B o e σ v
section
variable {P : Program} {e : Env} {σ : St} {d : Option Nat} {ty : TypeId} {pos : String} {af : Array Edge} {gd : Option (Nat × Bool)} {x y : Operand} {cx cy : Bool} {t u T : TypeId}
instance opMove {v : Value} [hx : Lk e x v cx] : OpI P ⟨d, .move x, ty, pos, af, gd⟩ e σ v cx := ⟨fun h _ => AI (hx.h h)⟩
instance opAssign {v : Value} [hx : Lk e x v cx] : OpI P ⟨d, .assign x, ty, pos, af, gd⟩ e σ v cx := ⟨fun h _ => Bk (hx.h h)⟩
instance opNot {b : Bool} [hx : Lk e x (.bool b) cx] : OpI P ⟨d, .unOp .not t x, ty, pos, af, gd⟩ e σ (.bool (!b)) cx := ⟨fun h _ => O4 (hx.h h)⟩
instance opLss {k : IntKind} {a b : Int} [hx : Lk e x (.int k a) cx] [hy : Lk e y (.int k b) cy] : OpI P ⟨d, .binOp .lss t x y u, ty, pos, af, gd⟩ e σ (.bool (decide (a < b))) (cx || cy) := ⟨fun h _ => q_lss (hx.h (Cl h).1) (hy.h (Cl h).2)⟩
instance opLeq {k : IntKind} {a b : Int} [hx : Lk e x (.int k a) cx] [hy : Lk e y (.int k b) cy] : OpI P ⟨d, .binOp .leq t x y u, ty, pos, af, gd⟩ e σ (.bool (decide (a ≤ b))) (cx || cy) := ⟨fun h _ => q_leq (hx.h (Cl h).1) (hy.h (Cl h).2)⟩
instance opGtr {k : IntKind} {a b : Int} [hx : Lk e x (.int k a) cx] [hy : Lk e y (.int k b) cy] : OpI P ⟨d, .binOp .gtr t x y u, ty, pos, af, gd⟩ e σ (.bool (decide (b < a))) (cx || cy) := ⟨fun h _ => q_gtr (hx.h (Cl h).1) (hy.h (Cl h).2)⟩
instance opGeq {k : IntKind} {a b : Int} [hx : Lk e x (.int k a) cx] [hy : Lk e y (.int k b) cy] : OpI P ⟨d, .binOp .geq t x y u, ty, pos, af, gd⟩ e σ (.bool (decide (b ≤ a))) (cx || cy) := ⟨fun h _ => q_geq (hx.h (Cl h).1) (hy.h (Cl h).2)⟩
instance opEql {k : IntKind} {a b : Int} [hx : Lk e x (.int k a) cx] [hy : Lk e y (.int k b) cy] : OpI P ⟨d, .binOp .eql t x y u, ty, pos, af, gd⟩ e σ (.bool (decide (a = b))) (cx || cy) := ⟨fun h _ => CH (hx.h (Cl h).1) (hy.h (Cl h).2)⟩
instance opNeq {k : IntKind} {a b : Int} [hx : Lk e x (.int k a) cx] [hy : Lk e y (.int k b) cy] : OpI P ⟨d, .binOp .neq t x y u, ty, pos, af, gd⟩ e σ (.bool (decide (a ≠ b))) (cx || cy) := ⟨fun h _ => q_neq (hx.h (Cl h).1) (hy.h (Cl h).2)⟩
instance opEqs {a b : ByteArray} [hx : Lk e x (.string a) cx] [hy : Lk e y (.string b) cy] : OpI P ⟨d, .binOp .eql t x y u, ty, pos, af, gd⟩ e σ (.bool (a.toList == b.toList)) (cx || cy) := ⟨fun h _ => q_eqs (hx.h (Cl h).1) (hy.h (Cl h).2)⟩
instance opNes {a b : ByteArray} [hx : Lk e x (.string a) cx] [hy : Lk e y (.string b) cy] : OpI P ⟨d, .binOp .neq t x y u, ty, pos, af, gd⟩ e σ (.bool (!(a.toList == b.toList))) (cx || cy) := ⟨fun h _ => q_nes (hx.h (Cl h).1) (hy.h (Cl h).2)⟩
instance opMin {a b : Int} {ts : Array TypeId} [hx : Lk e x (.int .i64 a) cx] [hy : Lk e y (.int .i64 b) cy] : OpI P ⟨d, .call ⟨.builtin .min, #[x, y], ts⟩, ty, pos, af, gd⟩ e σ (.int .i64 (min a b)) (cx || cy) := ⟨fun h _ => q_min2 (hx.h (Cl h).1) (hy.h (Cl h).2)⟩
instance opMax {a b : Int} {ts : Array TypeId} [hx : Lk e x (.int .i64 a) cx] [hy : Lk e y (.int .i64 b) cy] : OpI P ⟨d, .call ⟨.builtin .max, #[x, y], ts⟩, ty, pos, af, gd⟩ e σ (.int .i64 (max a b)) (cx || cy) := ⟨fun h _ => Uf (hx.h (Cl h).1) (hy.h (Cl h).2)⟩
instance opLen {a : Option Addr} {l c : Nat} [hT : SliceI P T] [hx : Lk e x (.slice a l c) cx] : OpI P ⟨d, .call ⟨.builtin .len, #[x], #[T]⟩, ty, pos, af, gd⟩ e σ (.int .i64 l) cx := ⟨fun h _ => by obtain ⟨E, s, hs⟩ := hT.h; exact q_len hs (hx.h h)⟩
instance opFld {f off : Nat} {a : Addr} {k : Nat} [hT : FieldI P T f off] [hx : Lk e x (.pointer (some (addc a k))) cx] : OpI P ⟨d, .fieldAddr T x f, ty, pos, af, gd⟩ e σ (.pointer (some (addc a (k + off)))) cx := ⟨fun h _ => CE hT.h (hx.h h)⟩
instance opFldB {f off : Nat} {b k : Nat} [hT : FieldI P T f off] [hx : Lk e x (.pointer (some ⟨b, k, none⟩)) cx] : OpI P ⟨d, .fieldAddr T x f, ty, pos, af, gd⟩ e σ (.pointer (some ⟨b, k + off, none⟩)) cx := ⟨fun h _ => AV hT.h (hx.h h)⟩
instance opLd {b k : Nat} {l : List Value} {v : Value} [hT : OneI P T] [hx : Lk e x (.pointer (some ⟨b, k, none⟩)) cx] [hb : BlkI σ b l] [hv : GetI l k v] : OpI P ⟨d, .load T x, ty, pos, af, gd⟩ e σ v cx := ⟨fun h _ => Ak hT.h (hx.h h) (Vv hb.h hv.h)⟩
instance opLdN {b s : Nat} {l : List Value} [hT : AggI P T s] [hx : Lk e x (.pointer (some ⟨b, 0, none⟩)) cx] [hb : BlkI σ b l] : OpI P ⟨d, .load T x, ty, pos, af, gd⟩ e σ (.agg l.toArray) (cx || !(Nat.beq l.length s)) :=
 ⟨fun h _ => AC hT.h (hx.h (Cl h).1) (by have := (Cl h).2; simpa using this) rfl (Tc hb.h)⟩
instance opExt {l : List Value} {i : Nat} {v : Value} [hx : Lk e x (.tuple l.toArray) cx] [hv : GetI l i v] : OpI P ⟨d, .extract x i, ty, pos, af, gd⟩ e σ v cx := ⟨fun h _ => CC (hx.h h) (by have := hv.h; simpa using this)⟩
end
theorem Ct {P : Program} {B : Base} {e : Env} {σ : St} {d : Option Nat} {ty : TypeId} {pos : String} {af : Array Edge} {gd : Option (Nat × Bool)} {x : Operand} {l : List Value} {i : Nat} {v : Value} (hx : ev e x = .tuple l.toArray) [g : GetI l i v] : OpR P B ⟨d, .extract x i, ty, pos, af, gd⟩ e σ v :=
 CC hx (by have := g.h; simpa using this)
class StepI (P : Program) (n : Nat) (σ : St) (k : Nat) (ops : List Oper) (e : Env) (ops' : outParam (List Oper)) (e' : outParam Env) (c : outParam Bool) : Prop where
 l : c = false → ∀ {B : Base} {A : Array Oper} {Q : Exit → Env → St → Prop}, WL P n B A Q ops' e' σ → WL P n B A Q ops e σ
 q : c = false → ∀ {B : Base} {A : Array Oper} {Q : Env → Prop}, WQ P n B A Q σ ops' e' → WQ P n B A Q σ ops e
section
variable {P : Program} {n : Nat} {σ : St} {ops ops' : List Oper} {e e' : Env} {c : Bool}
instance stepI0 : StepI P n σ 0 ops e ops e false := ⟨fun _ _ _ _ h => h, fun _ _ _ _ h => h⟩
instance stepI1 {k d : Nat} {op : Op} {ty : TypeId} {pos : String} {af : Array Edge} {v : Value} {c' : Bool} [g : OpI P ⟨some d, op, ty, pos, af, none⟩ e σ v c] [g' : StepI P n σ k ops (upd e d v) ops' e' c'] :
   StepI P n σ (k + 1) (⟨some d, op, ty, pos, af, none⟩ :: ops) e ops' e' (!(Nat.blt d n) || (c || c')) :=
 ⟨fun hc _ _ _ h => by have h1 := Cl hc; have h2 := Cl h1.2; exact Ag (by simpa using h1.1) (g.h h2.1) (g'.l h2.2 h),
  fun hc _ _ _ h => by have h1 := Cl hc; have h2 := Cl h1.2; exact AT (by simpa using h1.1) (g.h h2.1) (g'.q h2.2 h)⟩
structure Steps (P : Program) (n : Nat) (σ : St) (k : Nat) (ops : List Oper) (e : Env) (ops' : List Oper) (e' : Env) : Prop where
 l : ∀ {B : Base} {A : Array Oper} {Q : Exit → Env → St → Prop}, WL P n B A Q ops' e' σ → WL P n B A Q ops e σ
 q : ∀ {B : Base} {A : Array Oper} {Q : Env → Prop}, WQ P n B A Q σ ops' e' → WQ P n B A Q σ ops e
theorem Af (k : Nat) [g : StepI P n σ k ops e ops' e' c] (hc : c = false := by rfl) : Steps P n σ k ops e ops' e' := ⟨g.l hc, g.q hc⟩
theorem Aj {A : Array Oper} {Q : Exit → Env → St → Prop} {k : Nat} {B : Base} (g : Steps P n σ k ops e ops' e') (h : WL P n B A Q ops' e' σ) : WL P n B A Q ops e σ := g.l h
theorem AR {A : Array Oper} {Q : Env → Prop} {k : Nat} {B : Base} (g : Steps P n σ k ops e ops' e') (h : WQ P n B A Q σ ops' e') : WQ P n B A Q σ ops e := g.q h
theorem Aw {A : Array Oper} {K : Env → St → Prop} {Q : Exit → Env → St → Prop} {k : Nat} {B : Base} (g : Steps P n σ k ops e [] e') (h : K e' σ) : WL P n B A (thenE K Q) ops e σ := g.l (Ao (Ab h))
theorem AD {c2 : Code} {id : Nat} {Q : Exit → Env → St → Prop} {k : Nat} {B : Base} (g : Steps P n σ k ops e [] e') (h : WC P n B c2 Q e' σ) (hp : B.ro = none := by rfl) (hO : ∀ e σ, Q .outgrown e σ → False := by exact fun _ _ h => h) : WC P n B (.seq (.region id ops.toArray false) c2) Q e σ :=
 Ac (Am (fun _ => Aw g h) hp fun e σ h => hO e σ h)
theorem Az {c2 : Code} {id : Nat} {Q : Exit → Env → St → Prop} {k : Nat} {B : Base} (g : Steps P n σ k ops e ops' e') (h : ∀ ds, WL P n (B.at ds) ops.toArray (thenE (WC P n B c2 Q) Q) ops' e' σ) (hp : B.ro = none := by rfl) (hO : ∀ e σ, Q .outgrown e σ → False := by exact fun _ _ h => h) : WC P n B (.seq (.region id ops.toArray false) c2) Q e σ :=
 Ac (Am (fun ds => Aj g (h ds)) hp fun e σ h => hO e σ h)
end
end
section
open Go.RowKit
section
variable {P : Program} {n : Nat} {B : Base} {e : Env} {σ : St} {d : Option Nat} {ty : TypeId} {pos : String} {af : Array Edge} {gd : Option (Nat × Bool)}
def clipV : Value → Value
 | .slice a l _ => .slice a l l
 | v => v
theorem PN {v : Value} {l : Nat} (h : Plain v l) : Plain (clipV v) l := by
 obtain ⟨a, c, rfl, h1, h2, h3, h4⟩ := h
 exact ⟨a, l, by simp [clipV], fun h0 => h1 (by omega), fun h => ⟨(h2 h).1, (h2 h).1⟩, Nat.le_refl _, h4⟩
theorem Tk {v : Value} : base (clipV v) = base v := by
 cases v with
 | slice a l c => cases a <;> rfl
 | _ => rfl
theorem SV {v : Value} {l : Nat} (h : Plain v l) : ∃ a, clipV v = .slice a l l := by
 obtain ⟨a, c, rfl, h1, h2, h3, h4⟩ := h
 exact ⟨a, by simp [clipV]⟩
theorem Sl.clip {α : Type} {F : Heap} {v : Value} {s : Nat} {enc : α → List Value} {xs : List α} (h : Sl F v s enc xs) : Sl F (clipV v) s enc xs :=
 ⟨PN h.plain, fun i hi j u hu => by rw [Tk]; exact h.cells i hi j u hu⟩
theorem Ud {T E s : Nat} {x y z : Operand} {v : Value} {l : Nat} {i j : Int} {kd kd' : IntKind} (hT : SliceT P T E s) (hx : ev e x = v) (hv : Plain v l) (hy : ev e y = .int kd i) (hi : i = (l : Int)) (hz : ev e z = .int kd' j) (hj : j = (l : Int)) :
   OpR P B ⟨d, .slice T x none (some y) (some z), ty, pos, af, gd⟩ e σ (clipV v) := fun w _ => by
 obtain ⟨a, c, rfl, hsp, hno, hlc, -⟩ := hv
 subst hi; subst hj
 have hs := BL (P := P) (T := E) (s := s) hT.2
 have hadd : a.map (fun x => x.add 0) = a := by cases a <;> simp [Addr.add]
 simp [execOp, hx, hy, hz, Instr.sliceAt, Instr.slice, Instr.sliceBounds, Instr.sliceBound, asIntOf, Bo hT.1, hlc, hs, Int.toNat_natCast, clipV, hadd]
theorem K5 {T E s bytes : Nat} {z v u : Value} {k m : Nat} {cs news : List Value} (hT : SliceT P T E s) (hE : ElemT P E s bytes z)
   {w : World} (hw : Holds B σ w) (hv : Src σ v k cs s) (hfull : ∃ a, v = .slice a k k) (hm : 0 < m) (hsrc : Src σ u m news s) {A C : List (Nat × Obj)} (hH : σ.H = A ++ ([] ++ C)) (hroom : (k + m) * bytes ≤ 140737488355328) (hk : k + m ≤ 9223372036854775807) :
   ∃ v' w' R', (Builtin.append_ #[T, T] ty #[v, u]).run P w = .ok v' w' ∧ Holds B ⟨σ.F, A ++ (R' ++ C)⟩ w' ∧ Own E s v' (k + m) (cs ++ news) R' := by
 obtain ⟨a0, rfl⟩ := hfull
 obtain ⟨hl0, h10, a1, c1, he, hno0, hsp0⟩ := hv
 cases he
 cases a0 with
 | none =>
   have := hno0 rfl
   subst this
   have : cs = [] := List.eq_nil_of_length_eq_zero (by simpa using hl0)
   subst this
   exact FV (P := P) (ty := ty) hT hE hw BZ hsrc hH hroom hk
 | some x0 =>
   obtain ⟨hx01, hx02⟩ := hsp0 x0 rfl
   have holds : ∀ j u, cs[j]? = some u → w.cell? (x0.add j) = some u := fun j u hj => by rw [Cz (hx01 (K7 hl0 hj))]; exact (hx02 j u hj).get hw
   obtain ⟨i, hi, hi1, hi2, hi3⟩ := hE.ex
   subst hi1
   have hzs := hE.zs
   have size_zero : ∀ k, (Builtin.zeroCells z.cells k).toList.length = k * i.size := by
     intro k; rw [Array.length_toList, size_zeroCells, hzs]
   obtain ⟨hl, h1, a, c, rfl, hno, hsp⟩ := hsrc
   cases a with
   | none => have := hno rfl; omega
   | some x =>
     obtain ⟨hx1, hx2⟩ := hsp x rfl
     have hnews : ∀ j u, news[j]? = some u → w.cell? (x.add j) = some u := fun j u hj => by rw [Cz (hx1 (K7 hl hj))]; exact (hx2 j u hj).get hw
     have hgf := growslice_fits (need := k + m) (old := k) (bytes := bytes) (by omega) hroom
     have hr := run_append_grow (P := P) w T ty E i z hT.1 hi hi3 x0 k k cs hl0 holds x m c news hl hnews (by omega) (by omega) (by rw [hi2]; exact hgf)
     refine ⟨_, _, [(w.heap.size, _)], hr, hw.drew.renew hH _, grownCap w (k + m) k E, (Builtin.zeroCells z.cells (grownCap w (k + m) k E - (k + m))).toList, rfl, ?_, by rw [List.length_append, hl0, hl, Nat.add_mul], ?_, grownCap_ge w (k + m) k E⟩
     · simp only [bx]
       congr 1
       apply Array.ext'; simp
     simp only [List.length_append, size_zero, hl0, hl]
     rw [← Nat.add_mul, ← Nat.add_mul]; congr 1; have := grownCap_ge w (k + m) k E; omega
theorem FO {T E : Nat} (hT : P.underlying T = some (.slice E)) (a : Option Addr) (k c d : Nat) (w : World) : (Op.equalIn (d + 1) T (.slice a k c) (.slice none 0 0)).run P w = .ok a.isNone w := by
 cases a <;> simp [Op.equalIn, run_underlying hT]
theorem HT {T E : Nat} (hT : P.underlying T = some (.slice E)) (a : Option Addr) (k c : Nat) (w : World) : (binOp .eql T (.slice a k c) (.slice none 0 0)).run P w = .ok (.bool a.isNone) w := by
 simp only [binOp]
 simp [Op.equal, Op.maxDepth, FO hT a k c 9999 w]
theorem O6 {T E : Nat} {x y : Operand} {a : Option Addr} {k c : Nat} {u : TypeId} (hT : P.underlying T = some (.slice E)) (hx : ev e x = .slice a k c) (hy : ev e y = .slice none 0 0) :
   OpR P B ⟨d, .binOp .eql T x y u, ty, pos, af, gd⟩ e σ (.bool a.isNone) := fun w _ => by
 have h1 := HT hT a k c w
 simp only [execOp, hx, hy, eqGuard, Bool.not_true, Bool.false_eq_true, ite_self, Sem.run_bind, Sem.run_pure, Result.andThen_ok, h1]
theorem QL {T : Nat} {x y : Operand} {a0 b0 a1 b1 : Int} {u : TypeId} {f0 f1 : Field} {k0 k1 : IntKind} (hu : P.underlying T = some (.struct #[f0, f1])) (hst : P.stoodInHeld T = false) (hg : P.eqGuardType P.depth T = false)
   (n0 : f0.name ≠ "_") (n1 : f1.name ≠ "_") (o0 : f0.offset = 0) (o1 : f1.offset = 1) (h0 : P.underlying f0.type = some (.int k0)) (h1 : P.underlying f1.type = some (.int k1)) (s0 : OneT P f0.type) (s1 : OneT P f1.type)
   (hx : ev e x = .agg #[.int .i64 a0, .int .i64 a1]) (hy : ev e y = .agg #[.int .i64 b0, .int .i64 b1]) :
   OpR P B ⟨d, .binOp .eql T x y u, ty, pos, af, gd⟩ e σ (.bool ((a0 == b0) && (a1 == b1))) := fun w _ => by
 have hf : P.fieldsOf T = #[f0, f1] := by simp [Program.fieldsOf, hu]
 have hu' : P.underlying T = some (.struct (P.fieldsOf T)) := by rw [hf]; exact hu
 have p0 : ∀ cs : Array Value, ∀ v, cs[0]? = some v → (part f0.type cs f0.offset).run P w = .ok v w := fun cs v hv => by simp [part, Ej s0, o0, hv]
 have p1 : ∀ cs : Array Value, ∀ v, cs[1]? = some v → (part f1.type cs f1.offset).run P w = .ok v w := fun cs v hv => by simp [part, Ej s1, o1, hv]
 have he := run_eql_struct (P := P) w T #[.int .i64 a0, .int .i64 a1] #[.int .i64 b0, .int .i64 b1]
 rw [run_equalIn_struct w 9999 T _ _ hu' hst, hf] at he
 have hgd := run_eqGuard_agg (P := P) w .eql T x y #[.int .i64 a0, .int .i64 a1] #[.int .i64 b0, .int .i64 b1] hg
 simp only [execOp, hx, hy, Sem.run_bind, hgd, Result.andThen_ok, he]
 simp only [Op.eqFields, ne_eq, n0, n1, not_false_eq_true, if_true, Sem.run_bind, p0 _ _ (show (#[Value.int .i64 a0, Value.int .i64 a1] : Array Value)[0]? = some (.int .i64 a0) from rfl), p0 _ _ (show (#[Value.int .i64 b0, Value.int .i64 b1] : Array Value)[0]? = some (.int .i64 b0) from rfl), Result.andThen_ok, run_equalIn_int w 9998 f0.type .i64 k0 a0 b0 h0]
 cases hab : (a0 == b0) with
 | false => simp
 | true =>
   simp [p1 _ _ (show (#[Value.int .i64 a0, Value.int .i64 a1] : Array Value)[1]? = some (.int .i64 a1) from rfl), p1 _ _ (show (#[Value.int .i64 b0, Value.int .i64 b1] : Array Value)[1]? = some (.int .i64 b1) from rfl), run_equalIn_int w 9998 f1.type .i64 k1 a1 b1 h1]
   by_cases hc : a1 = b1 <;> simp [hc]
theorem q_addB {x y : Operand} {a : Int} {v : UInt8} {t u : TypeId} (hx : ev e x = .int .i64 a) (hy : ev e y = .int .i64 (v.toNat : Int)) (h0 : 0 ≤ a) (h1 : a ≤ 1000) :
   OpR P B ⟨d, .binOp .add t x y u, ty, pos, af, gd⟩ e σ (.int .i64 (a + (v.toNat : Int))) := by
 have := v.toNat_lt
 exact AG hx hy rfl (by omega) (by omega)
theorem q_convB {S D : Nat} {x : Operand} {v : UInt8} (hS : ∃ k0, P.underlying S = some (.int k0)) (hD : P.underlying D = some (.int .i64)) (hx : ev e x = .int .u8 (v.toNat : Int)) :
   OpR P B ⟨d, .convert S D x, ty, pos, af, gd⟩ e σ (.int .i64 (v.toNat : Int)) := by
 have := v.toNat_lt
 exact Ff hS hD hx (EJ (by omega) (by omega))
theorem O5 {fn : Fn} {xs ys : List Operand} {vs us : List Value} (hx : Av e xs vs) (hy : Av e ys us) : OpR P B ⟨d, .makeFunc fn xs.toArray ys.toArray, ty, pos, af, gd⟩ e σ (.func fn vs.toArray us.toArray) := fun w _ => by
 have h1 := hx.map
 have h2 := hy.map
 simp [execOp, Instr.makeFunc, h1, h2]
def FnOk (P : Program) (v : Value) (vs : List Value) (F : Heap) (R : Value → Heap → Prop) : Prop := ∃ g fs cs, v = .func (.func g) (List.toArray fs) (List.toArray cs) ∧ Body P g ∧ Ok P g (fs ++ vs ++ cs).toArray F R
theorem FnOk.one {v : Value} {vs : List Value} {F : Heap} {R : Value → Heap → Prop} (h : FnOk P v vs F R) : v.oneCell' = true := by obtain ⟨g, fs, cs, rfl, -⟩ := h; rfl
theorem PF {g : FuncId} {f : Operand} {fs cs vs : List Value} {xs : List Operand} {at_ : Array TypeId} {d : Option Nat} (hg : Body P g) (hf : ev e f = .func (.func g) fs.toArray cs.toArray) (hx : Av e xs vs) (w : World) :
   (execOp (ev e) ⟨d, .call ⟨.value f, xs.toArray, at_⟩, ty, pos, af, none⟩).run P w = .ok (.enter g (fs ++ vs ++ cs).toArray) w := by
 have hm := hx.map
 simp [execOp, resolve, invoke, Deferred.ofValue, hf, Ek hg, hm]
theorem HX {F : Heap} {H : List (Nat × Obj)} {b T off : Nat} {l us rest : List Value} (i : Nat) (hi : H[i]? = some (b, bx T l)) (hd : l.drop off = us ++ rest) : ∀ j v, us[j]? = some v → Cell ⟨F, H⟩ (addc ⟨b, off, none⟩ j) v := fun j v hj => by
 have h1 := (List.getElem?_eq_some_iff.1 hj).1
 have : (l.drop off)[j]? = some v := by rw [hd, List.getElem?_append_left h1]; exact hj
 rw [List.getElem?_drop] at this
 exact Cell.own i hi this
theorem CI {F : Heap} {H R : List (Nat × Obj)} {E s k j : Nat} {v u : Value} {cs : List Value} (h : Own E s v k cs R) (hm : ∀ p ∈ R, p ∈ H) (hj : cs[j]? = some u) : Cell ⟨F, H⟩ (addc (base v) j) u := by
 match R, h with
 | [], h => obtain ⟨-, -, rfl⟩ := h; simp at hj
 | [(b, o)], h =>
   obtain ⟨cap, spare, rfl, rfl, -⟩ := h
   have hl := (List.getElem?_eq_some_iff.1 hj).1
   refine ⟨rfl, (cs ++ spare).toArray, E, (0, 0), .inr (hm _ (by simp [bx, base, addc])), ?_⟩
   simp [base, addc, List.getElem?_append_left hl, hj]
theorem Jj {α : Type} {enc : α → List Value} {s : Nat} (hs : ∀ x, (enc x).length = s) {j : Nat} {u : Value} : ∀ (l : List α) (i : Nat) (hi : i < l.length), (enc l[i])[j]? = some u → (l.flatMap enc)[i * s + j]? = some u := by
 intro l
 induction l with
 | nil => intro i hi; simp at hi
 | cons x l ih =>
   intro i hi hu
   rw [List.flatMap_cons]
   cases i with
   | zero =>
     replace hu : (enc x)[j]? = some u := hu
     have hj := (List.getElem?_eq_some_iff.1 hu).1
     rw [Nat.zero_mul, Nat.zero_add, List.getElem?_append_left hj]; exact hu
   | succ i =>
     rw [List.getElem?_append_right (by rw [hs, Nat.add_mul]; omega), hs, show (i + 1) * s + j - s = i * s + j from by rw [Nat.add_mul]; omega]
     exact ih i (by simpa using hi) (by simpa using hu)
theorem L6 {α : Type} {enc : α → List Value} {s : Nat} (hs : ∀ x, (enc x).length = s) : ∀ l : List α, (l.flatMap enc).length = l.length * s := by
 intro l; induction l with
 | nil => simp
 | cons x l ih => simp [List.flatMap_cons, hs, ih, Nat.add_mul, Nat.add_comm]
end
end
section
open Go.RowKit
def OkN (P : Program) (f : FuncId) (args : Array Value) (F : Heap) (R : Value → Heap → List (Nat × Obj) → Prop) : Prop :=
 ∀ w, Sub F w → Calls P f args w fun r w' => ∃ v F' Hn, r = .returned v ∧ Grow w F [] w' F' ∧ (∀ p ∈ Hn, w'.heap[p.1]? = some p.2 ∧ F' p.1 = none ∧ w.heap.size ≤ p.1) ∧ (keys Hn).Nodup ∧ R v F' Hn
theorem Own.to {E s k k' : Nat} {v : Value} {cs : List Value} {R : List (Nat × Obj)} (h : Own E s v k cs R) (hk : k = k') : Own E s v k' cs R := hk ▸ h
section
variable {P : Program} {n : Nat} {B : Base} {e : Env} {σ : St} {ty : TypeId} {pos : String} {af : Array Edge} {gd : Option (Nat × Bool)}
theorem Oj {d : Option Nat} {T E s : Nat} {K : Value → St → Prop} (hT : SliceT P T E s)
   (hn : ∀ b, B.w0.heap.size ≤ b → σ.F b = none → K (.slice (some ⟨b, 0, none⟩) 0 0) ⟨σ.F, (b, bx E []) :: σ.H⟩) :
   OpX P n B ⟨d, .buildSlice T 0 #[], ty, pos, af, gd⟩ e σ K := .run fun w hw => by
 have hs := BL (P := P) (T := E) (s := s) hT.2
 refine ⟨_, _, _, .inl ?_, hw.alloc (bx E []), hn _ hw.size hw.fresh⟩
 simp [execOp, Instr.buildSlice, Bo hT.1, hs, Instr.fill, newRow, bx]
 rw [show Array.map (fun _ => (default : Value)) (Array.range 0) = (#[] : Array Value) from by apply Array.ext'; simp]
def PostN (P : Program) (fn : Func) (B : Base) (R : Value → Heap → List (Nat × Obj) → Prop) : Exit → Env → St → Prop
 | .normal, e, σ | .ret, e, σ => ∃ rs vs F' Hn, fn.results = List.toArray rs ∧ Rv P e σ rs vs ∧ (∀ ds w, Holds (B.at ds) σ w → Holds (B.at ds) ⟨F', Hn⟩ w) ∧ R (outOf vs) F' Hn
 | _, _, _ => False
theorem OkN.intro {f : FuncId} {fn : Func} {c : Code} {args : List Value} {F : Heap} {R : Value → Heap → List (Nat × Obj) → Prop} (hf : P.funcs[f]? = some fn) (hb : fn.body = some c) (hn : fn.ntmps = n) (hsz : Nat.ble args.length n = true)
   (h : ∀ w, WC P n ⟨w, [], F, [], none⟩ c (PostN P fn ⟨w, [], F, [], none⟩ R) (fun t => args.getD t undef) ⟨F, []⟩) : OkN P f args.toArray F R := by
 intro w hs
 refine (callsIn_wide (n := 0)).1 (callsIn_of_wp_marks (F := fence none) hf hb trivial (wpIn_mono (h w [] _ _ ?_ ?_) fun x a' w' hq => ?_))
 · refine ⟨?_, rfl, fun t => ?_⟩
   · have : args.length ≤ n := by simpa using hsz
     simp [hn]; omega
   have hl : args.length ≤ n := by simpa using hsz
   by_cases ht : t < args.length
   · simp [Array.getElem?_append_left, ht]
   simp only [Array.getD_eq_getD_getElem?, List.getD_eq_getElem?_getD]
   rw [Array.getElem?_append_right (by simp; omega), List.getElem?_eq_none (by omega)]
   simp only [List.size_toArray, Array.getElem?_replicate]
   split <;> rfl
 · exact ⟨rfl, rfl, rfl, Nat.le_refl _, fun _ _ _ => rfl, hs, (fun p hp => nomatch hp), List.nodup_nil, fun _ _ => rfl, Heap.le_refl _, (fun D hD => nomatch hD), List.nodup_nil⟩
 obtain ⟨ds, e', σ', h1, h2, h3⟩ := hq
 have fin : ∀ rs vs F' Hn, fn.results = List.toArray rs → Rv P e' σ' rs vs → (∀ ds w2, Holds (Base.at ⟨w, [], F, [], none⟩ ds) σ' w2 → Holds (Base.at ⟨w, [], F, [], none⟩ ds) ⟨F', Hn⟩ w2) → R (outOf vs) F' Hn →
     LeavesInM (fence none) 0 P fn a'.tmps (fun r w' => ∃ v F' Hn, r = .returned v ∧ Grow w F [] w' F' ∧ (∀ p ∈ Hn, w'.heap[p.1]? = some p.2 ∧ F' p.1 = none ∧ w.heap.size ≤ p.1) ∧ (keys Hn).Nodup ∧ R v F' Hn) a'.defers .returning w' := by
   intro rs vs F' Hn q1 q2 q3 q5
   rw [h1.defers]
   refine GE (B := ⟨w, [], F, [], none⟩) ds w' h2 fun w2 hw2 => ?_
   have h2' := q3 [] w2 hw2
   refine ⟨_, FX q1 q2 h1 hw2, _, F', Hn, rfl, ⟨h2'.os, h2'.tape, h2'.output, h2'.size, h2'.old, h2'.le, h2'.sub, h2'.ext⟩, fun p hp => ?_, h2'.nodup, q5⟩
   obtain ⟨k1, k2, k3⟩ := h2'.own p hp
   exact ⟨k1, k2, k3.resolve_right (fun h => nomatch h)⟩
 cases x with
 | normal => obtain ⟨rs, vs, F', H', q1, q2, q3, q5⟩ := h3; exact fin rs vs F' H' q1 q2 q3 q5
 | ret => obtain ⟨rs, vs, F', H', q1, q2, q3, q5⟩ := h3; exact fin rs vs F' H' q1 q2 q3 q5
 | exit id => exact h3.elim
 | goto l => exact h3.elim
 | panic ch => exact h3.elim
 | outgrown => exact h3.elim
theorem BK {fn : Func} {R : Value → Heap → List (Nat × Obj) → Prop} {rs : List ResultVar} {vs : List Value} {Hn : List (Nat × Obj)} (hr : fn.results = rs.toArray) (hv : Rv P e σ rs vs) (hp : Hn.Sublist σ.H) (hR : R (outOf vs) σ.F Hn) :
   PostN P fn B R .ret e σ := ⟨rs, vs, σ.F, Hn, hr, hv, fun _ _ h => h.drop hp, hR⟩
theorem BY {d : Option Nat} {g : FuncId} {f : Operand} {cs vs : List Value} {xs : List Operand} {at_ : Array TypeId}
   {R : Value → Heap → List (Nat × Obj) → Prop} {K : Value → St → Prop} (hg : Body P g) (hf : ev e f = .func (.func g) #[] cs.toArray) (hx : Av e xs vs)
   (hok : OkN P g (vs ++ cs).toArray σ.F R) (hn : ∀ v F' Hn, R v F' Hn → σ.F.le F' → K v ⟨F', σ.H ++ Hn⟩) :
   OpX P n B ⟨d, .call ⟨.value f, xs.toArray, at_⟩, ty, pos, af, none⟩ e σ K := by
 intro a w ha hw next Qx hnext
 unfold Oper.wp
 rw [ha.ev, E1 hg hf hx, Oper.upon_enter]
 refine (hok w hw.sub).mono fun r w' hq => ?_
 obtain ⟨v, F', Hn, rfl, hg', hH', hnd, hR⟩ := hq
 have h := hw.grow (Hc := []) (rest := σ.H) (H' := []) rfl hg' rfl (by simp)
 refine hnext v _ w' (hn v F' Hn hR hg'.le) ⟨h.os, h.tape, h.output, h.size, h.old, h.sub, fun p hp => ?_, ?_, h.ext, h.le, fun D hD => ?_, h.dnodup⟩
 · rcases List.mem_append.1 hp with hp | hp
   · exact h.own p (by simpa using hp)
   obtain ⟨k1, k2, k3⟩ := hH' p hp
   exact ⟨k1, k2, .inl (by have := hw.size; omega)⟩
 · rw [List.map_append, List.nodup_append]
   refine ⟨hw.nodup, hnd, fun a ha b hb he => ?_⟩
   obtain ⟨p, hp, rfl⟩ := List.mem_map.1 ha
   obtain ⟨q, hq, rfl⟩ := List.mem_map.1 hb
   have h1 := hw.lt hp
   have h2 := (hH' q hq).2.2
   omega
 obtain ⟨k1, k2, k3, k4⟩ := h.marks D hD
 refine ⟨k1, k2, k3, fun hm => ?_⟩
 rw [List.map_append] at hm
 rcases List.mem_append.1 hm with hm | hm
 · exact k4 (by simpa using hm)
 obtain ⟨q, hq, rfl⟩ := List.mem_map.1 hm
 have h1 := (Array.getElem?_eq_some_iff.1 (hw.marks _ hD).1).1
 have h2 := (hH' q hq).2.2
 omega
end
end
section
open Go.RowKit
def heapOf (W : World) : Heap := fun b => W.heap[b]?
theorem Qk (W : World) : Sub (heapOf W) W := fun _ _ h => h
theorem Vk {W : World} {a : Addr} {v : Value} (h : W.cell? a = some v) : CellF (heapOf W) a v := by
 have hs := World.cell?_spot h
 unfold World.cell? at h
 split at h
 · rename_i c T fr hb
   simp [hs] at h
   exact ⟨hs, c, T, fr, hb, by simpa using h⟩
 cases h
section
variable {H : Type} {enc : TypeId × Value → H} {P : Program} {W : World}
def Rd (enc : TypeId × Value → H) (P : Program) (W : World) (t : TypeId) (cs : List Value) : Prop :=
 ∃ fuel x, DataW.trod enc P W 0 (fun _ => true) true fuel t cs = some x ∧ ∀ n ∈ x.1.weights P t, n ≤ reachBytes
theorem Ua {t : TypeId} {v : Value} {d : DataW H} {p : List MemPlace} (h : DataW.Trod enc P W 0 (fun _ => true) true t v d p) (hw : ∀ n ∈ d.weights P t, n ≤ reachBytes) : Rd enc P W t v.cells.toList := by
 obtain ⟨fuel, hf⟩ := h
 exact ⟨fuel, _, hf, hw⟩
theorem Ub {t : TypeId} {k : IntKind} {cs : List Value} (ht : P.underlying t = some (.int k)) (h : Rd enc P W t cs) : ∃ z, cs = [.int k z] ∧ (Lit.int k z).wf = true := by
 obtain ⟨fuel, x, hf, -⟩ := h
 obtain ⟨z, h1, -, h2⟩ := DataW.trod_int ht hf
 exact ⟨z, h1, h2⟩
theorem rd_bool {t : TypeId} {cs : List Value} (ht : P.underlying t = some .bool) (h : Rd enc P W t cs) : ∃ b, cs = [.bool b] := by
 obtain ⟨fuel, x, hf, -⟩ := h
 obtain ⟨b, h1, -⟩ := DataW.trod_bool ht hf
 exact ⟨b, h1⟩
theorem Sp {t : TypeId} {cs : List Value} (ht : P.underlying t = some .string) (h : Rd enc P W t cs) : ∃ s, cs = [.string s] := by
 obtain ⟨fuel, x, hf, -⟩ := h
 obtain ⟨s, h1, -⟩ := DataW.trod_string ht hf
 exact ⟨s, h1⟩
theorem CL {t : TypeId} {fs : Array Field} {cs : List Value} (ht : P.underlying t = some (.struct fs)) (h : Rd enc P W t cs) :
   cs.length = P.cellsOf t ∧ ∀ (i : Nat) (f : Field), fs[i]? = some f → Rd enc P W f.type ((cs.drop f.offset).take (P.cellsOf f.type)) := by
 obtain ⟨fuel, x, hf, hw⟩ := h
 obtain ⟨xs, n, -, rfl, hl, hn, hx⟩ := DataW.trod_struct ht hf
 refine ⟨hl, fun i f hi => ?_⟩
 have h1 := hx i f hi
 have hi' : i < xs.length := by rw [hn]; exact (Array.getElem?_eq_some_iff.1 hi).1
 rw [List.getElem?_eq_getElem hi'] at h1
 refine ⟨n, xs[i], h1, fun q hq => hw q ?_⟩
 simp only [DataW.weights, ht]
 refine DataW.weights_mem_each (j := i) (t := f.type) (d := xs[i].1) ?_ ?_ q hq
 · rw [List.getElem?_map]; simp [hi]
 rw [List.getElem?_map]; simp [hi']
theorem BT {fs : Array Field} {cs : List Value} (hf : ∀ (i : Nat) (f : Field), fs[i]? = some f → Rd enc P W f.type ((cs.drop f.offset).take (P.cellsOf f.type))) (i : Nat) {t o s : Nat} (h : (fs[i]?).map (fun f => (f.type, f.offset)) = some (t, o)) (hs : P.cellsOf t = s) : Rd enc P W t ((cs.drop o).take s) := by
 rw [Option.map_eq_some_iff] at h
 obtain ⟨f, h1, h2⟩ := h
 cases h2
 rw [← hs]
 exact hf i f h1
theorem Dk {e : TypeId} : ∀ {ds : List (DataW H)} {d : DataW H}, d ∈ ds → ∀ n ∈ d.weights P e, n ∈ DataW.weightsAll P e ds
 | [], _, h, _, _ => nomatch h
 | d0 :: ds, d, h, n, hn => by
   simp only [DataW.weightsAll, List.mem_append]
   rcases List.mem_cons.1 h with rfl | h
   · exact .inl hn
   exact .inr (Dk h n hn)
theorem Uc {t e : TypeId} {m : Nat} {cs : List Value} (ht : P.underlying t = some (.array m e)) (h : Rd enc P W t cs) :
   cs.length = P.cellsOf t ∧ ∀ i, i < m → Rd enc P W e ((cs.drop (i * P.cellsOf e)).take (P.cellsOf e)) := by
 obtain ⟨fuel, x, hf, hw⟩ := h
 cases fuel with
 | zero => simp [DataW.trod] at hf
 | succ n =>
   unfold DataW.trod at hf
   simp only [ht] at hf
   split at hf
   · rename_i hl
     refine ⟨hl, fun i hi => ?_⟩
     simp only [Option.map_eq_some_iff] at hf
     obtain ⟨xs, h1, rfl⟩ := hf
     have h2 := mapM_some_get h1 i i (by simp [hi])
     have hlen := mapM_some_length h1
     have hi' : i < xs.length := by rw [hlen]; simpa using hi
     rw [List.getElem?_eq_getElem hi'] at h2
     refine ⟨n, xs[i], h2, fun q hq => hw q ?_⟩
     simp only [DataW.weights, ht]
     exact Dk (d := xs[i].1) (List.mem_map_of_mem (List.getElem_mem hi')) q hq
   cases hf
theorem QX {α : Type} {p : Nat → α → Prop} : ∀ n, (∀ i, i < n → ∃ x, p i x) → ∃ xs : List α, xs.length = n ∧ ∀ i (hi : i < xs.length), p i xs[i]
 | 0, _ => ⟨[], rfl, fun i hi => absurd hi (by simp)⟩
 | n + 1, h => by
   obtain ⟨xs, h1, h2⟩ := QX n fun i hi => h i (by omega)
   obtain ⟨x, hx⟩ := h n (by omega)
   refine ⟨xs ++ [x], by simp [h1], fun i hi => ?_⟩
   by_cases hin : i < xs.length
   · rw [List.getElem_append_left hin]; exact h2 i hin
   have : i = n := by simp at hi; omega
   subst this
   rw [List.getElem_append_right (by omega)]
   simpa [h1] using hx
theorem D2 {α : Type} {p : α → Prop} {t e s : Nat} {v : Value} {encA : α → List Value} (ht : P.underlying t = some (.slice e)) (hc : P.cellsOf e = s) (hs : 0 < s) (hb : 0 < P.bytesOf e) (hlen : ∀ x, (encA x).length = s)
   (dec : ∀ cs, Rd enc P W e cs → ∃ x : α, cs = encA x ∧ p x) (h : Rd enc P W t [v]) : ∃ xs : List α, Sl (heapOf W) v s encA xs ∧ ∀ x ∈ xs, p x := by
 obtain ⟨fuel, x, hf, hw⟩ := h
 rcases Deep.open_slice ht hf with ⟨hcs, -⟩ | ⟨a, len, cap, m, n, D, Pl, hcs, -, hl, -, hm, rfl, hel⟩
 · cases hcs
   exact ⟨[], Sl.nil, by simp⟩
 cases hcs
 simp only [if_true] at hm
 subst hm
 have hcap : m ≤ reachBytes := by
   have h1 := hw ((((List.range len).map D).length + ((List.range (m - len)).map fun j => D (len + j)).length) * P.bytesOf e) (by simp only [DataW.weights, ht]; exact List.mem_cons_self)
   simp only [List.length_map, List.length_range] at h1
   have : len + (m - len) = m := by omega
   rw [this] at h1
   exact Nat.le_trans (Nat.le_mul_of_pos_right _ hb) h1
 have hr : reachBytes < 281474976710656 := by decide
 have hwt : ∀ i, i < m → ∀ q ∈ (D i).weights P e, q ≤ reachBytes := by
   intro i hi q hq
   refine hw q ?_
   simp only [DataW.weights, ht, List.mem_cons, List.mem_append]
   by_cases hil : i < len
   · exact .inr (.inl (Dk (List.mem_map_of_mem (List.mem_range.2 hil)) q hq))
   refine .inr (.inr (Dk (d := D i) ?_ q hq))
   rw [List.mem_map]
   exact ⟨i - len, List.mem_range.2 (by omega), by rw [show len + (i - len) = i by omega]⟩
 rw [hc] at hel
 have hspot : 0 < m → a.spot = none := by
   intro h0
   obtain ⟨cs', h1, h2⟩ := hel 0 h0
   obtain ⟨-, h3, h4⟩ := World.cells?_some h1
   have h5 := h4 0 (by omega)
   rw [List.getElem?_eq_getElem (by omega)] at h5
   have h6 := World.cell?_spot h5
   simpa [Addr.add] using h6
 obtain ⟨xs, hx1, hx2⟩ := QX (p := fun i (x : α) => p x ∧ ∀ j u, (encA x)[j]? = some u → CellF (heapOf W) (addc (base (.slice (some a) len m)) (i * s + j)) u) len fun i hi => by
   obtain ⟨cs', h1, h2⟩ := hel i (by omega)
   obtain ⟨x, rfl, hp⟩ := dec cs' ⟨n, _, h2, hwt i (by omega)⟩
   refine ⟨x, hp, fun j u hj => ?_⟩
   obtain ⟨-, h3, h4⟩ := World.cells?_some h1
   have hjs : j < s := by rw [← hlen x]; exact (List.getElem?_eq_some_iff.1 hj).1
   have h5 := h4 j hjs
   rw [hj] at h5
   have hsp := hspot (by omega)
   rw [Cz hsp, Cz (a := addc a (i * s)) rfl, DM] at h5
   exact Vk h5
 refine ⟨xs, ⟨⟨some a, m, by rw [hx1], fun h0 y hy => by cases hy; exact hspot h0, (fun h => nomatch h), by omega, by omega⟩, fun i hi j u hu => (hx2 i hi).2 j u hu⟩, fun x hx => ?_⟩
 obtain ⟨i, hi, rfl⟩ := List.getElem_of_mem hx
 exact (hx2 i hi).1
theorem Vx {w w' : World} {F F' : Heap} (h : Grow w F [] w' F') : Below w.heap.size w w' := ⟨h.os, h.tape, h.output, h.size, fun k hk => h.old k hk (by simp)⟩
theorem Ok.law {f : FuncId} {args : Array Value} {u : Value} (h : Ok P f args (heapOf W) fun v _ => v = u) : Calls P f args W fun e w' => e = .returned u ∧ Below W.heap.size W w' := by
 refine (h W (Qk W) (by simp) (by simp [keys])).mono fun e w' hq => ?_
 obtain ⟨v, F', H', rfl, hg, -, -, rfl⟩ := hq
 exact ⟨rfl, Vx hg⟩
end
end
section
open Go
def letterB (c : UInt8) : Bool := decide (97 ≤ (c.toNat : Int)) && decide ((c.toNat : Int) ≤ 122)
def digitB (c : UInt8) : Bool := decide (48 ≤ (c.toNat : Int)) && decide ((c.toNat : Int) ≤ 57)
def chOk (i : Nat) (c : UInt8) : Bool := letterB c || (decide (i ≠ 0) && (digitB c || decide ((c.toNat : Int) = 46)))
def nameOk (s : ByteArray) : Bool := decide (0 < s.size ∧ s.size ≤ 16 ∧ ∀ i (h : i < s.size), chOk i s[i] = true)
theorem Kn {s : ByteArray} (h1 : 0 < s.size) (h2 : s.size ≤ 16) (h3 : ∀ i (h : i < s.size), chOk i s[i] = true) : nameOk s = true := dT ⟨h1, h2, h3⟩
theorem FA {s : ByteArray} (h : ¬ (0 < s.size ∧ s.size ≤ 16)) : nameOk s = false := dF fun ⟨a, b, _⟩ => h ⟨a, b⟩
theorem C8 {s : ByteArray} {i : Nat} (h : i < s.size) (hc : chOk i s[i] = false) : nameOk s = false := dF fun ⟨_, _, a⟩ => by rw [a i h] at hc; cases hc
theorem HO (s : ByteArray) : s.toList = s.data.toList := ByteArray.toList_eq s
theorem Gp {s : ByteArray} : (s.toList == (ByteArray.mk #[]).toList) = decide (s.size = 0) := by
 rw [Bool.eq_iff_iff, decide_eq_true_iff, beq_iff_eq, HO, HO]
 constructor
 · intro h
   have : s.data.toList.length = 0 := by rw [h]; rfl
   simpa using this
 intro h
 have : s.data.toList.length = 0 := by simpa using h
 rw [List.eq_nil_of_length_eq_zero this]
def sameS (a b : ByteArray) : Bool := a.toList == b.toList
def freshE (wd : ByteArray) (xs : List ByteArray) : Int := if nameOk wd = false then 6 else if xs.any (fun x => sameS x wd) = true then 5 else 0
def rangeE (a b lo hi : Int) : Int := if min a b < lo ∨ hi < max a b then 7 else if b < a then 2 else 0
def inB (lo hi z : Int) : Bool := decide (lo ≤ z) && decide (z ≤ hi)
def firstBad (n : Nat) (f : Nat → Int) : Option Nat := (List.range n).find? fun i => decide (f i ≠ 0)
theorem GU {n k : Nat} {f : Nat → Int} (hk : k < n) (h : f k ≠ 0) (hb : ∀ j, j < k → f j = 0) : firstBad n f = some k := by
 unfold firstBad
 rw [List.find?_range_eq_some]
 exact ⟨by simpa using h, by simpa using hk, fun j hj => by simpa using hb j hj⟩
theorem GV {n : Nat} {f : Nat → Int} (hb : ∀ j, j < n → f j = 0) : firstBad n f = none := by
 unfold firstBad
 rw [List.find?_range_eq_none]
 intro j hj
 simpa using hb j hj
def findI {α : Type} (p : α → Bool) (xs : List α) : Int := match xs.findIdx? p with | some i => (i : Int) | none => -1
theorem Co {α : Type} {p : α → Bool} {xs : List α} {k : Nat} (hk : k < xs.length) (h : p xs[k] = true) (hb : ∀ j (hj : j < xs.length), j < k → p xs[j] = false) : findI p xs = k := by
 unfold findI
 have : xs.findIdx? p = some k := by
   rw [List.findIdx?_eq_some_iff_getElem]
   exact ⟨hk, h, fun j hj => by simpa using hb j (by omega) hj⟩
 rw [this]
theorem Cy {α : Type} {p : α → Bool} {xs : List α} (hb : ∀ j (hj : j < xs.length), p xs[j] = false) : findI p xs = -1 := by
 unfold findI
 have : xs.findIdx? p = none := by
   rw [List.findIdx?_eq_none_iff]
   intro x hx
   obtain ⟨j, hj, rfl⟩ := List.mem_iff_getElem.1 hx
   exact hb j hj
 rw [this]
theorem CM {α : Type} {p : α → Bool} {xs : List α} : decide (0 ≤ findI p xs) = xs.any p := by
 unfold findI
 cases h : xs.findIdx? p with
 | none =>
   have := List.findIdx?_eq_none_iff.1 h
   have : xs.any p = false := by simpa using this
   rw [this]; rfl
 | some i =>
   obtain ⟨hi, hp, -⟩ := List.findIdx?_eq_some_iff_getElem.1 h
   have : xs.any p = true := List.any_eq_true.2 ⟨_, List.getElem_mem hi, hp⟩
   rw [this]; simp
end
section
structure Sg where
 round : Int
 letter : Int
deriving DecidableEq
structure Chg where
 kind : Int
 pos : Int
 many : Int
structure Gth where
 sig : Sg
 leaves : Int
 chs : List Chg
structure Qbk where
 signed : Int
 gs : List Gth
structure Ql where
 gath : Int
 num : Int
 plus : Int
 kind : Int
deriving DecidableEq
@[reducible] def Chg.enc (x : Chg) : List Go.Value := [.int .i64 x.kind, .int .i64 x.pos, .int .i64 x.many]
@[reducible] def Ql.enc (x : Ql) : List Go.Value := [.int .i64 x.gath, .int .i64 x.num, .int .i64 x.plus, .int .i64 x.kind]
@[reducible] def gE (x : Go.Value × Gth) : List Go.Value := [.int .i64 x.2.sig.round, .int .i64 x.2.sig.letter, .int .i64 x.2.leaves, x.1]
theorem Chg.enc_one {b : Chg} : ∀ u ∈ b.enc, u.oneCell' = true := by simp [Chg.enc, Value.oneCell']
theorem Ql.enc_one {b : Ql} : ∀ u ∈ b.enc, u.oneCell' = true := by simp [Ql.enc, Value.oneCell']
structure QbkR (F : Heap) (vg : Go.Value) (qs : List (Go.Value × Gth)) (b : Qbk) : Prop where
 gs : Sl F vg 4 gE qs
 chs : ∀ x ∈ qs, Sl F x.1 3 Chg.enc x.2.chs
 eqs : qs.map (·.2) = b.gs
theorem QbkR.mono {F F' : Heap} {vg : Go.Value} {qs : List (Go.Value × Gth)} {b : Qbk} (h : QbkR F vg qs b) (hF : F.le F') : QbkR F' vg qs b := ⟨h.gs.mono hF, fun x hx => (h.chs x hx).mono hF, h.eqs⟩
theorem QbkR.len {F : Heap} {vg : Go.Value} {qs : List (Go.Value × Gth)} {b : Qbk} (h : QbkR F vg qs b) : qs.length = b.gs.length := by rw [← h.eqs, List.length_map]
def Qbk.g (b : Qbk) (i : Nat) : Gth := b.gs[i]?.getD ⟨⟨0, 0⟩, 0, []⟩
def Gth.c (g : Gth) (k : Nat) : Chg := g.chs[k]?.getD ⟨0, 0, 0⟩
theorem g_at {b : Qbk} {i : Nat} (h : i < b.gs.length) : b.gs[i] = b.g i := by simp [Qbk.g, h]
theorem Dc {g : Gth} {k : Nat} (h : k < g.chs.length) : g.chs[k] = g.c k := by simp [Gth.c, h]
theorem QbkR.at {F : Heap} {vg : Go.Value} {qs : List (Go.Value × Gth)} {b : Qbk} (h : QbkR F vg qs b) {i : Nat} (hi : i < qs.length) : qs[i].2 = b.g i := by
 have h1 : i < b.gs.length := by rw [← h.len]; exact hi
 rw [← g_at h1]
 simp only [← h.eqs, List.getElem_map]
theorem QbkR.ones {F : Heap} {vg : Go.Value} {qs : List (Go.Value × Gth)} {b : Qbk} (h : QbkR F vg qs b) : ∀ x ∈ qs, ∀ u ∈ gE x, u.oneCell' = true := by
 intro x hx u hu
 simp only [gE, List.mem_cons, List.not_mem_nil, or_false] at hu
 rcases hu with rfl | rfl | rfl | rfl
 · rfl
 · rfl
 · rfl
 exact (h.chs x hx).plain.one
def firstQ (n : Nat) (f : Nat → Int) : Int × Int := match (List.range n).find? (fun i => f i != 0) with
 | none => (0, 0)
 | some i => ((i : Int), f i)
theorem EB {n k : Nat} {f : Nat → Int} (hk : k < n) (hb : ∀ j, j < k → f j = 0) (hne : f k ≠ 0) : firstQ n f = ((k : Int), f k) := by
 unfold firstQ
 have h : (List.range n).find? (fun i => f i != 0) = some k := by
   rw [List.find?_range_eq_some]
   exact ⟨by simpa using hne, List.mem_range.2 hk, fun j hj => by simp [hb j hj]⟩
 rw [h]
theorem Fj {n : Nat} {f : Nat → Int} (hb : ∀ j, j < n → f j = 0) : firstQ n f = (0, 0) := by
 unfold firstQ
 rw [List.find?_eq_none.2 fun i hi => by simp [hb i (List.mem_range.1 hi)]]
theorem Gm {n : Nat} {f : Nat → Int} (h : (firstQ n f).2 = 0) : ∀ j, j < n → f j = 0 := by
 unfold firstQ at h
 cases hf : (List.range n).find? (fun i => f i != 0) with
 | none =>
   intro j hj
   have := List.find?_eq_none.1 hf j (List.mem_range.2 hj)
   simpa using this
 | some i =>
   rw [hf] at h
   have := List.find?_some hf
   simp at this
   exact absurd h this
def noneS (s : Sg) : Bool := !(inB 1 3 s.round) || !(inB 0 24 s.letter)
def letS (s : Sg) : Bool := decide (s.letter < 23)
def befS (a b : Sg) : Bool := decide (a.round < b.round) || (decide (a.round = b.round) && decide (a.letter < b.letter))
def chgLo (c : Chg) : Int := if c.kind = 3 then 0 else 1
def chgMany (c : Chg) : Bool := if c.kind = 3 then inB 1 4 c.many else inB 0 0 c.many
def chgErr (g : Gth) (k : Nat) : Int :=
 if inB 1 3 (g.c k).kind = false then 6 else if (inB (chgLo (g.c k)) g.leaves (g.c k).pos && chgMany (g.c k)) = false then 7
 else if 0 < k ∧ ((g.c k).pos < (g.c (k - 1)).pos ∨ (g.c k).pos = (g.c (k - 1)).pos ∧ ((g.c k).kind ≠ 3 ∨ (g.c (k - 1)).kind = 3)) then 2 else 0
theorem LR {g : Gth} {k : Nat} (h1 : inB 1 3 (g.c k).kind = true) (h2 : (inB (chgLo (g.c k)) g.leaves (g.c k).pos && chgMany (g.c k)) = true) (hk : k ≠ 0) :
   chgErr g k = if (g.c k).pos < (g.c (k - 1)).pos ∨ (g.c k).pos = (g.c (k - 1)).pos ∧ ((g.c k).kind ≠ 3 ∨ (g.c (k - 1)).kind = 3) then 2 else 0 := by
 unfold chgErr
 rw [if_neg (by rw [h1]; simp), if_neg (by rw [h2]; simp)]
 by_cases hX : (g.c k).pos < (g.c (k - 1)).pos ∨ (g.c k).pos = (g.c (k - 1)).pos ∧ ((g.c k).kind ≠ 3 ∨ (g.c (k - 1)).kind = 3)
 · rw [if_pos ⟨by omega, hX⟩, if_pos hX]
 rw [if_neg (fun h => hX h.2), if_neg hX]
def lvErr (g : Gth) : Bool := decide (g.leaves ≠ 1) && (!(inB 2 12 g.leaves) || decide (g.leaves % 2 = 1))
def lastS (b : Qbk) : Nat → Sg
 | 0 => ⟨0, 0⟩
 | i + 1 => if letS (b.g i).sig = true then (b.g i).sig else lastS b i
def metS (b : Qbk) (i : Nat) : Bool := (List.range i).any fun k => decide ((b.g k).sig = (b.g i).sig)
def tailErr (g : Gth) : Int := if lvErr g = true then 7 else if 4 < g.chs.length then 3 else (firstQ g.chs.length (chgErr g)).2
def gthErr (b : Qbk) (i : Nat) : Int :=
 if noneS (b.g i).sig = true then 7 else if metS b i = true then 5 else if (letS (b.g i).sig && befS (b.g i).sig (lastS b i)) = true then 2 else tailErr (b.g i)
def rankS (s : Sg) : Int := if 23 ≤ s.letter then -1 else (s.round - 1) * 23 + s.letter
def maxR (b : Qbk) : Nat → Int
 | 0 => -1
 | i + 1 => max (maxR b i) (rankS (b.g i).sig)
def gthRef (b : Qbk) (i : Nat) : Int :=
 if noneS (b.g i).sig = true then 7 else if metS b i = true then 5 else if 0 ≤ rankS (b.g i).sig ∧ rankS (b.g i).sig < maxR b i then 2 else tailErr (b.g i)
def checkR1 (b : Qbk) : Int × Int × Int :=
 if inB 0 12 b.signed = false then (1, 0, 7) else if inB 1 30 b.gs.length = false then (1, 0, 3) else if (firstQ b.gs.length (gthRef b)).2 ≠ 0 then (2, firstQ b.gs.length (gthRef b)) else (0, 0, 0)
structure ValidQ (b : Qbk) : Prop where
 signed : 0 ≤ b.signed ∧ b.signed ≤ 12
 many : 1 ≤ b.gs.length ∧ b.gs.length ≤ 30
 gth : ∀ i, i < b.gs.length → gthRef b i = 0
theorem Cn {a b z : Int} : inB a b z = true ↔ a ≤ z ∧ z ≤ b := by unfold inB; simp
theorem Mo {b : Qbk} (h : (checkR1 b).2.2 = 0) : ValidQ b := by
 unfold checkR1 at h
 by_cases a1 : inB 0 12 b.signed = false
 · rw [if_pos a1] at h; exact absurd h (by decide)
 rw [if_neg a1] at h
 by_cases a2 : inB 1 30 b.gs.length = false
 · rw [if_pos a2] at h; exact absurd h (by decide)
 rw [if_neg a2] at h
 by_cases a3 : (firstQ b.gs.length (gthRef b)).2 = 0
 · rw [Bool.not_eq_false] at a1 a2
   rw [Cn] at a1 a2
   exact ⟨a1, by omega, Gm a3⟩
 rw [if_pos a3] at h; exact absurd h a3
theorem D4 {b : Qbk} {i : Nat} (h : gthRef b i = 0) : noneS (b.g i).sig = false ∧ metS b i = false ∧ ¬ (0 ≤ rankS (b.g i).sig ∧ rankS (b.g i).sig < maxR b i) ∧ tailErr (b.g i) = 0 := by
 unfold gthRef at h
 split at h
 · cases h
 rename_i a1
 split at h
 · cases h
 rename_i a2
 split at h
 · cases h
 rename_i a3
 exact ⟨by simpa using a1, by simpa using a2, a3, h⟩
theorem OO {b : Qbk} (hv : ValidQ b) : ∀ i, i ≤ b.gs.length → (maxR b i = -1 ∧ lastS b i = ⟨0, 0⟩) ∨ (maxR b i = rankS (lastS b i) ∧ letS (lastS b i) = true ∧ noneS (lastS b i) = false)
 | 0, _ => .inl ⟨rfl, rfl⟩
 | i + 1, h => by
   have ih := OO hv i (by omega)
   obtain ⟨h1, h2, h3, -⟩ := D4 (hv.gth i (by omega))
   unfold maxR lastS
   by_cases hl : letS (b.g i).sig = true
   · rw [if_pos hl]
     have hl2 : (b.g i).sig.letter < 23 := by unfold letS at hl; simpa using hl
     have hr : rankS (b.g i).sig = ((b.g i).sig.round - 1) * 23 + (b.g i).sig.letter := if_neg (by omega)
     have hn := h1
     unfold noneS at hn
     simp only [Bool.or_eq_false_iff, Bool.not_eq_false', Cn] at hn
     refine .inr ⟨?_, hl, h1⟩
     rcases ih with ⟨e, -⟩ | ⟨e, -, -⟩ <;> omega
   rw [if_neg hl]
   have hl2 : 23 ≤ (b.g i).sig.letter := by unfold letS at hl; simpa using hl
   have hr : rankS (b.g i).sig = -1 := if_pos hl2
   rw [hr]
   rcases ih with ⟨e, e2⟩ | ⟨e, e2, e3⟩
   · exact .inl ⟨by omega, e2⟩
   have hn := e3
   unfold noneS at hn
   simp only [Bool.or_eq_false_iff, Bool.not_eq_false', Cn] at hn
   have hl3 : (lastS b i).letter < 23 := by unfold letS at e2; simpa using e2
   have hr2 : rankS (lastS b i) = ((lastS b i).round - 1) * 23 + (lastS b i).letter := if_neg (by omega)
   exact .inr ⟨by omega, e2, e3⟩
theorem L3 {b : Qbk} (hv : ValidQ b) {i : Nat} (hi : i < b.gs.length) : gthErr b i = 0 := by
 obtain ⟨h1, h2, h3, h4⟩ := D4 (hv.gth i hi)
 unfold gthErr
 rw [if_neg (by rw [h1]; simp), if_neg (by rw [h2]; simp), if_neg, h4]
 intro hb
 rw [Bool.and_eq_true] at hb
 obtain ⟨hl, hbf⟩ := hb
 have hl2 : (b.g i).sig.letter < 23 := by unfold letS at hl; simpa using hl
 have hr : rankS (b.g i).sig = ((b.g i).sig.round - 1) * 23 + (b.g i).sig.letter := if_neg (by omega)
 have hn := h1
 unfold noneS at hn
 simp only [Bool.or_eq_false_iff, Bool.not_eq_false', Cn] at hn
 unfold befS at hbf
 simp only [Bool.or_eq_true, Bool.and_eq_true, decide_eq_true_eq] at hbf
 rcases OO hv i (by omega) with ⟨e, e2⟩ | ⟨e, e2, e3⟩
 · rw [e2] at hbf
   simp only at hbf
   omega
 have hn2 := e3
 unfold noneS at hn2
 simp only [Bool.or_eq_false_iff, Bool.not_eq_false', Cn] at hn2
 have hl3 : (lastS b i).letter < 23 := by unfold letS at e2; simpa using e2
 have hr2 : rankS (lastS b i) = ((lastS b i).round - 1) * 23 + (lastS b i).letter := if_neg (by omega)
 exact h3 ⟨by omega, by omega⟩
end
end Go.Proofs.YtkjfmibiinfhfacGreat
