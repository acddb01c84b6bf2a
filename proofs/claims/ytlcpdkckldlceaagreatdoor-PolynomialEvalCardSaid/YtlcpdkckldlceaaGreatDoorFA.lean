/-
  The rules of a small logic of heaps over the model: control, owned and read-only memory, operations, calls, rows, maps.
-/
import Derived.Calls
import Derived.Laws.Sem
import Derived.Laws.BitsLemmas
import Derived.KernelRfl
import Derived.Maps.Keyed
namespace Go.Sx

/-- The slots of a frame, as a chain of writes over a function; and the blocks of deferred calls that loops over functions have laid. -/
inductive Env where
  | base (f : Nat → Value)
  | set (d : Nat) (v : Value) (r : Env)
  | dfr (b : Nat) (r : Env)
  | hav (ws : List Nat) (f : Nat → Value) (r : Env)

noncomputable def memB (ws : List Nat) (i : Nat) : Bool :=
  List.rec (motive := fun _ => Bool) false (fun x _ ih => bif Nat.beq x i then true else ih) ws

noncomputable def Env.get (ρ : Env) : Nat → Value :=
  Env.rec (motive := fun _ => Nat → Value) (fun f i => f i) (fun d v _ ih i => bif Nat.beq d i then v else ih i) (fun _ _ ih i => ih i) (fun ws f _ ih i => bif memB ws i then f i else ih i) ρ

noncomputable def Env.ds (ρ : Env) : List Nat :=
  Env.rec (motive := fun _ => List Nat) (fun _ => []) (fun _ _ _ ih => ih) (fun b _ ih => b :: ih) (fun _ _ _ ih => ih) ρ

/-- Several slots written. -/
noncomputable def Env.sets (l : List (Nat × Value)) (ρ : Env) : Env :=
  List.rec (motive := fun _ => Env) ρ (fun p _ ih => .set p.1 p.2 ih) l
/-- The slots of a list are as it says. -/
noncomputable def Agree (ρ : Env) (l : List (Nat × Value)) : Prop :=
  List.rec (motive := fun _ => Prop) True (fun p _ ih => ρ.get p.1 = p.2 ∧ ih) l
/-- What lies under the writes to the slots ws. -/
noncomputable def Env.strip (ws : List Nat) (ρ : Env) : Option Env :=
  Env.rec (motive := fun _ => Option Env) (fun _ => none) (fun d _ _ ih => bif memB ws d then ih else none) (fun _ _ _ => none) (fun ws' _ r ih => bif ws'.all (memB ws) then (bif ws.all (memB ws') then some r else ih) else none) ρ
def Over (ws : List Nat) (ρ ρ' : Env) : Prop := (∀ i, memB ws i = false → ρ'.get i = ρ.get i) ∧ ρ'.ds = ρ.ds

theorem Env.get_set (d : Nat) (v : Value) (r : Env) (i : Nat) : (Env.set d v r).get i = if d = i then v else r.get i := by
  show (bif Nat.beq d i then v else r.get i) = _
  by_cases h : d = i
  · subst h; simp
  · have : Nat.beq d i = false := by rw [Bool.eq_false_iff]; intro h'; exact h (Nat.eq_of_beq_eq_true h')
    simp [this, h]
theorem Env.get_hav (ws : List Nat) (f : Nat → Value) (r : Env) (i : Nat) : (Env.hav ws f r).get i = if memB ws i = true then f i else r.get i := by
  show (bif memB ws i then f i else r.get i) = _
  cases memB ws i <;> rfl
theorem memB_of_all {ws ws' : List Nat} (h : ws'.all (memB ws) = true) {i : Nat} (hi : memB ws i = false) : memB ws' i = false := by
  induction ws' with
  | nil => rfl
  | cons x l ih =>
    rw [List.all_cons, Bool.and_eq_true] at h
    show (bif Nat.beq x i then true else memB l i) = false
    have hx : Nat.beq x i = false := by
      rw [Bool.eq_false_iff]; intro h'
      have := Nat.eq_of_beq_eq_true h'
      subst this; rw [h.1] at hi; cases hi
    rw [hx]; exact ih h.2
theorem Over.of_strip {ws : List Nat} {ρ ρ' : Env} (h : ρ'.strip ws = some ρ) : Over ws ρ ρ' := by
  induction ρ' with
  | base f => cases h
  | set d v r ih =>
    have h' : (bif memB ws d then r.strip ws else none) = some ρ := h
    cases hd : memB ws d with
    | false => rw [hd] at h'; cases h'
    | true =>
      rw [hd] at h'
      obtain ⟨h1, h2⟩ := ih h'
      refine ⟨fun i hi => ?_, h2⟩
      rw [Env.get_set, if_neg]
      · exact h1 i hi
      · intro e; subst e; rw [hd] at hi; cases hi
  | dfr b r ih => cases h
  | hav ws' f r ih =>
    have h' : (bif ws'.all (memB ws) then (bif ws.all (memB ws') then some r else r.strip ws) else none) = some ρ := h
    cases hd : ws'.all (memB ws) with
    | false => rw [hd] at h'; cases h'
    | true =>
      rw [hd] at h'
      have hr : Over ws ρ r := by
        cases hw : ws.all (memB ws') with
        | true =>
          rw [hw] at h'
          have : r = ρ := by simpa using h'
          subst this; exact ⟨fun _ _ => rfl, rfl⟩
        | false => rw [hw] at h'; exact ih (by simpa using h')
      refine ⟨fun i hi => ?_, hr.2⟩
      rw [Env.get_hav, if_neg]
      · exact hr.1 i hi
      · rw [memB_of_all hd hi]; simp
theorem Over.refl (ws : List Nat) (ρ : Env) : Over ws ρ ρ := ⟨fun _ _ => rfl, rfl⟩
theorem Over.set {ws : List Nat} {ρ ρ' : Env} {d : Nat} {v : Value} (hd : memB ws d = true) (h : Over ws ρ ρ') : Over ws ρ (.set d v ρ') :=
  ⟨fun i hi => by rw [Env.get_set, if_neg (by intro e; subst e; rw [hd] at hi; cases hi)]; exact h.1 i hi, h.2⟩
theorem Over.hav {ws ws' : List Nat} {f : Nat → Value} {ρ ρ' : Env} (hd : ws'.all (memB ws) = true) (h : Over ws ρ ρ') : Over ws ρ (.hav ws' f ρ') :=
  ⟨fun i hi => by rw [Env.get_hav, if_neg (by rw [memB_of_all hd hi]; simp)]; exact h.1 i hi, h.2⟩

/-- The slots of a list written over whatever ws hold: what agrees is that. -/
theorem sets_get {ws : List Nat} {ρ ρ' : Env} (ho : Over ws ρ ρ') : ∀ (l : List (Nat × Value)), Agree ρ' l → (∀ t, (Env.sets l (.hav ws ρ'.get ρ)).get t = ρ'.get t) ∧ (Env.sets l (.hav ws ρ'.get ρ)).ds = ρ'.ds := by
  intro l
  induction l with
  | nil =>
    intro _
    refine ⟨fun t => ?_, ho.2.symm⟩
    show (Env.hav ws ρ'.get ρ).get t = _
    rw [Env.get_hav]
    split
    · rfl
    · rename_i h; exact (ho.1 t (by simpa using h)).symm
  | cons p l ih =>
    intro h
    have h' : ρ'.get p.1 = p.2 ∧ Agree ρ' l := h
    obtain ⟨i1, i2⟩ := ih h'.2
    refine ⟨fun t => ?_, i2⟩
    show (Env.set p.1 p.2 (Env.sets l (.hav ws ρ'.get ρ))).get t = _
    rw [Env.get_set]
    split
    · subst_vars; exact h'.1.symm
    · exact i1 t

theorem Env.get_dfr (b : Nat) (r : Env) (i : Nat) : (Env.dfr b r).get i = r.get i := rfl
theorem Env.ds_set (d : Nat) (v : Value) (r : Env) : (Env.set d v r).ds = r.ds := rfl
theorem Env.ds_dfr (b : Nat) (r : Env) : (Env.dfr b r).ds = b :: r.ds := rfl

noncomputable def Env.ev (ρ : Env) : Operand → Value
  | .tmp t => ρ.get t
  | .const v => v
  | .global g => .pointer (some ⟨g, 0, none⟩)
  | .func f => .func (.func f) #[] #[]

noncomputable def Env.put (ρ : Env) (dst : Option Tmp) (v : Value) : Env :=
  match dst with
  | some d => .set d v ρ
  | none => ρ

def Env.args (l : List Value) : Env := .base fun i => l.getD i undef

structure Sim (n : Nat) (a : Act) (ρ : Env) : Prop where
  defers : a.defers = ρ.ds.map fun b => { target := .collected b, args := #[] }
  size : a.tmps.size = n
  get : ∀ i, a.tmps.getD i undef = ρ.get i

theorem Sim.eval {n : Nat} {a : Act} {ρ : Env} (h : Sim n a ρ) : a.eval = ρ.ev := by
  funext x; cases x <;> simp [Act.eval, Env.ev, h.get]

/-- Is the slot that an operation writes one of the frame's? -/
def dstOk (n : Nat) : Option Tmp → Bool
  | some d => Nat.blt d n
  | none => true

theorem Sim.put {n : Nat} {a : Act} {ρ : Env} (h : Sim n a ρ) {dst : Option Tmp} (hd : dstOk n dst = true) (v : Value) : Sim n (a.put dst v) (ρ.put dst v) := by
  cases dst with
  | none => exact h
  | some d =>
    have hd' : d < n := by simpa [dstOk, Nat.blt_eq] using hd
    refine ⟨h.defers, by simpa [Act.put] using h.size, fun i => ?_⟩
    have hg := h.get i
    have hs := h.size
    simp only [Act.put, Env.put, Env.get_set]
    by_cases hi : d = i
    · subst hi; simp [Array.getD, hs, hd']
    · rw [if_neg hi, ← hg]
      simp only [Array.getD_eq_getD_getElem?, Array.getElem?_setIfInBounds, if_neg hi]

/-- A frame's kind: its function, the number of its slots, and the loop of which it is a round. -/
structure FK where
  f : FuncId
  n : Nat
  ro : Option Nat

def FK.fr (X : FK) (a : Act) (todo : List Item) : Frame :=
  { fn := X.f, tmps := a.tmps, todo, defers := a.defers, mode := .run, kind := .normal, roundOf := X.ro }

/-- Where a frame leaves its body: the end, a return, a jump out of a round. -/
def AtLeave : Option Code → List Item → Prop
  | none, todo => todo = []
  | some .ret, todo => ∃ k, todo = .code .ret :: k
  | some (.exit id), todo => ∃ k, todo = .code (.exit id) :: k ∧ exitTo id k = none
  | _, _ => False

/-- From 'todo', slots ρ and world w the frame comes to leave its body so that L holds. -/
def Goes (P : Program) (X : FK) (L : Option Code → Env → World → Prop) (todo : List Item) (ρ : Env) (w : World) : Prop :=
  ∀ (a : Act) (cs : List Frame), Sim X.n a ρ →
    ∃ j ρ' a' w' todo', L j ρ' w' ∧ Sim X.n a' ρ' ∧ Steps P (lone (X.fr a todo) cs w) (lone (X.fr a' todo') cs w') ∧ AtLeave j todo'

section
variable {P : Program} {X : FK} {L : Option Code → Env → World → Prop} {k : List Item} {ρ : Env} {w : World}

theorem Goes.of_step {todo todo' : List Item} {ρ' : Env} {w' : World}
    (hs : ∀ a cs, Sim X.n a ρ → ∃ a', Sim X.n a' ρ' ∧ step P (lone (X.fr a todo) cs w) = .next (lone (X.fr a' todo') cs w'))
    (h : Goes P X L todo' ρ' w') : Goes P X L todo ρ w := by
  intro a cs ha
  obtain ⟨a', ha', hst⟩ := hs a cs ha
  obtain ⟨j, ρ₁, a₁, w₁, t₁, hL, hsim, hsteps, hat⟩ := h a' cs ha'
  exact ⟨j, ρ₁, a₁, w₁, t₁, hL, hsim, .head hst hsteps, hat⟩

theorem Goes.mono {L' : Option Code → Env → World → Prop} {todo : List Item} (h : Goes P X L todo ρ w) (hl : ∀ j ρ w, L j ρ w → L' j ρ w) : Goes P X L' todo ρ w :=
  fun a cs ha => let ⟨j, ρ', a', w', t, hL, r⟩ := h a cs ha; ⟨j, ρ', a', w', t, hl _ _ _ hL, r⟩

theorem Goes.done (h : L none ρ w) : Goes P X L [] ρ w :=
  fun a _ ha => ⟨none, ρ, a, w, [], h, ha, .refl _ _, rfl⟩
theorem Goes.ret (h : L (some .ret) ρ w) : Goes P X L (.code .ret :: k) ρ w :=
  fun a _ ha => ⟨some .ret, ρ, a, w, _, h, ha, .refl _ _, k, rfl⟩
theorem Goes.exitOut {id : Nat} (hk : exitTo id k = none) (h : L (some (.exit id)) ρ w) : Goes P X L (.code (.exit id) :: k) ρ w :=
  fun a _ ha => ⟨some (.exit id), ρ, a, w, _, h, ha, .refl _ _, k, rfl, hk⟩

theorem Goes.skip (h : Goes P X L k ρ w) : Goes P X L (.code .skip :: k) ρ w :=
  .of_step (fun a cs ha => ⟨a, ha, step_lone_go (by simp [stepG, stepG.exec, FK.fr])⟩) h
theorem Goes.label {l : Nat} (h : Goes P X L k ρ w) : Goes P X L (.code (.label l) :: k) ρ w :=
  .of_step (fun a cs ha => ⟨a, ha, step_lone_go (by simp [stepG, stepG.exec, FK.fr])⟩) h
theorem Goes.inBlock {id : Nat} (h : Goes P X L k ρ w) : Goes P X L (.inBlock id :: k) ρ w :=
  .of_step (fun a cs ha => ⟨a, ha, step_lone_go (by simp [stepG, stepG.exec, FK.fr])⟩) h
theorem Goes.inScope {c : Code} (h : Goes P X L k ρ w) : Goes P X L (.inScope c :: k) ρ w :=
  .of_step (fun a cs ha => ⟨a, ha, step_lone_go (by simp [stepG, stepG.exec, FK.fr])⟩) h
theorem Goes.scope {c : Code} (h : Goes P X L (.code c :: .inScope c :: k) ρ w) : Goes P X L (.code (.scope c) :: k) ρ w :=
  .of_step (fun a cs ha => ⟨a, ha, step_lone_go (by simp [stepG, stepG.exec, FK.fr])⟩) h
theorem Goes.seq {x y : Code} (h : Goes P X L (.code x :: .code y :: k) ρ w) : Goes P X L (.code (.seq x y) :: k) ρ w :=
  .of_step (fun a cs ha => ⟨a, ha, step_lone_go (by simp [stepG, stepG.exec, FK.fr])⟩) h
theorem Goes.block {id : Nat} {c : Code} (h : Goes P X L (.code c :: .inBlock id :: k) ρ w) : Goes P X L (.code (.block id c) :: k) ρ w :=
  .of_step (fun a cs ha => ⟨a, ha, step_lone_go (by simp [stepG, stepG.exec, FK.fr])⟩) h
theorem Goes.enterLoop {c : Code} (h : Goes P X L (.code c :: .inLoop c :: k) ρ w) : Goes P X L (.code (.loop c) :: k) ρ w :=
  .of_step (fun a cs ha => ⟨a, ha, step_lone_go (by simp [stepG, stepG.exec, FK.fr])⟩) h
theorem Goes.inLoop {c : Code} (h : Goes P X L (.code c :: .inLoop c :: k) ρ w) : Goes P X L (.inLoop c :: k) ρ w :=
  .of_step (fun a cs ha => ⟨a, ha, step_lone_go (by simp [stepG, stepG.exec, FK.fr])⟩) h
theorem Goes.exit {id : Nat} {k' : List Item} (hk : exitTo id k = some k') (h : Goes P X L k' ρ w) : Goes P X L (.code (.exit id) :: k) ρ w :=
  .of_step (fun a cs ha => ⟨a, ha, step_lone_go (by simp [stepG, stepG.exec, FK.fr, hk])⟩) h
theorem FK.eval (X : FK) (a : Act) (todo : List Item) : (X.fr a todo).eval = a.eval := by
  funext x; cases x <;> rfl
theorem Goes.goto {l : Nat} {k' : List Item} (hk : gotoIn l k = some k') (h : Goes P X L k' ρ w) : Goes P X L (.code (.goto l) :: k) ρ w :=
  .of_step (fun a cs ha => ⟨a, ha, step_lone_go (by simp [stepG, stepG.exec, FK.fr, hk])⟩) h
theorem Goes.condB {c : Operand} {x y : Code} {t : Bool} (hc : ρ.ev c = .bool t) (h : Goes P X L (.code (if t then x else y) :: k) ρ w) :
    Goes P X L (.code (.cond c x y) :: k) ρ w :=
  .of_step (fun a cs ha => ⟨a, ha, step_lone_go (by
    have := congrFun (FK.eval X a (.code (.cond c x y) :: k)) c
    rw [ha.eval, hc] at this
    simp only [FK.fr] at this
    simp [stepG, stepG.exec, FK.fr, this])⟩) h
theorem Goes.cond {c : Operand} {x y : Code} {t : Bool} (hc : ρ.ev c = .bool t) (h1 : t = true → Goes P X L (.code x :: k) ρ w)
    (h2 : t = false → Goes P X L (.code y :: k) ρ w) : Goes P X L (.code (.cond c x y) :: k) ρ w := by
  refine .condB hc ?_
  cases t
  · exact h2 rfl
  · exact h1 rfl
theorem Goes.condT {c : Operand} {x y : Code} {t : Bool} (hc : ρ.ev c = .bool t) (ht : t = true) (h1 : Goes P X L (.code x :: k) ρ w) : Goes P X L (.code (.cond c x y) :: k) ρ w := by
  subst ht; exact .condB hc h1
theorem Goes.condF {c : Operand} {x y : Code} {t : Bool} (hc : ρ.ev c = .bool t) (ht : t = false) (h1 : Goes P X L (.code y :: k) ρ w) : Goes P X L (.code (.cond c x y) :: k) ρ w := by
  subst ht; exact .condB hc h1

/-- A loop: an invariant over some data x, and a measure that falls. -/
theorem Goes.loop {α : Sort _} {c : Code} (I : α → Env → World → Prop) (μ : α → Nat) (x₀ : α) (h₀ : I x₀ ρ w)
    (round : ∀ x ρ w, I x ρ w → (∀ y ρ' w', I y ρ' w' → μ y < μ x → Goes P X L (.inLoop c :: k) ρ' w') → Goes P X L (.code c :: .inLoop c :: k) ρ w) :
    Goes P X L (.code (.loop c) :: k) ρ w := by
  refine .enterLoop ?_
  have key : ∀ n x ρ w, μ x = n → I x ρ w → Goes P X L (.code c :: .inLoop c :: k) ρ w := by
    intro n
    induction n using Nat.strongRecOn with
    | _ n ih =>
      intro x ρ w hn hI
      exact round x ρ w hI fun y ρ' w' hy hlt => .inLoop (ih (μ y) (hn ▸ hlt) y ρ' w' rfl hy)
  exact key _ x₀ ρ w rfl h₀

/-- Two ways of one piece of code meet again. -/
theorem Goes.cut {α : Sort _} {c : Code} (M : α → Env → World → Prop) (after : ∀ x ρ w, M x ρ w → Goes P X L k ρ w)
    (h : (∀ x ρ w, M x ρ w → Goes P X L k ρ w) → Goes P X L (.code c :: k) ρ w) : Goes P X L (.code c :: k) ρ w := h after

theorem Goes.congr {todo : List Item} {ρ' : Env} (hg : ∀ t, ρ.get t = ρ'.get t) (hd : ρ.ds = ρ'.ds) (h : Goes P X L todo ρ w) : Goes P X L todo ρ' w :=
  fun a cs ha => h a cs ⟨by rw [ha.defers, hd], ha.size, fun i => by rw [ha.get, hg]⟩

/-- A loop, by the slots that its round writes (ws), what those of them hold that are read later (S), and what holds of the world (I). -/
theorem Goes.loopS {α : Type} {c : Code} (ws : List Nat) (S : α → List (Nat × Value)) (I : α → World → Prop) (μ : α → Nat) (x₀ : α) (hS : Agree ρ (S x₀)) (hI : I x₀ w)
    (round : ∀ x f w, I x w → (∀ y ρ' w', Agree ρ' (S y) → Over ws ρ ρ' → I y w' → μ y < μ x → Goes P X L (.inLoop c :: k) ρ' w') →
      Goes P X L (.code c :: .inLoop c :: k) (Env.sets (S x) (.hav ws f ρ)) w) : Goes P X L (.code (.loop c) :: k) ρ w := by
  refine .loop (fun x ρ' w' => Agree ρ' (S x) ∧ Over ws ρ ρ' ∧ I x w') μ x₀ ⟨hS, .refl _ _, hI⟩ ?_
  rintro x ρ' w' ⟨h1, h2, h3⟩ again
  obtain ⟨g1, g2⟩ := sets_get h2 (S x) h1
  exact (round x ρ'.get w' h3 fun y ρ₁ w₁ a1 a2 a3 a4 => again y ρ₁ w₁ ⟨a1, a2, a3⟩ a4).congr g1 g2

/-- Ways that meet again, by the slots that they write. -/
theorem Goes.cutS {α : Type} {c : Code} (ws : List Nat) (S : α → List (Nat × Value)) (I : α → World → Prop)
    (after : ∀ x f w, I x w → Goes P X L k (Env.sets (S x) (.hav ws f ρ)) w)
    (h : ∀ f, (∀ x ρ' w', Agree ρ' (S x) → Over ws ρ ρ' → I x w' → Goes P X L k ρ' w') → Goes P X L (.code c :: k) (.hav ws f ρ) w) : Goes P X L (.code c :: k) ρ w := by
  have key : Goes P X L (.code c :: k) (.hav ws ρ.get ρ) w := h ρ.get fun x ρ' w' h1 h2 h3 => by
    obtain ⟨g1, g2⟩ := sets_get h2 (S x) h1
    exact (after x ρ'.get w' h3).congr g1 g2
  refine Goes.congr (ρ := .hav ws ρ.get ρ) (fun t => ?_) rfl key
  rw [Env.get_hav]; split <;> rfl

end

/-! ### Operations -/

noncomputable def Env.yielded (ρ : Env) (ops : Array Oper) (j : Nat) : Option Bool :=
  match (ops[j]?).bind (·.dst) with
  | some d => match ρ.get d with | .bool b => some b | _ => none
  | none => none

theorem yielded_eq {n : Nat} {a : Act} {ρ : Env} (h : Sim n a ρ) (ops : Array Oper) : Go.yielded ops a.tmps = ρ.yielded ops := by
  funext j
  unfold Go.yielded Env.yielded
  cases hd : (ops[j]?).bind (·.dst) with
  | none => rfl
  | some d =>
    have hg := h.get d
    simp only [Option.bind_some]
    rw [← hg, Array.getD_eq_getD_getElem?]
    cases a.tmps[d]? with
    | none => rfl
    | some v => cases v <;> rfl

/-- A round of a loop over a function, entered by its yield function: what it hands back to the frame that called. -/
def Rounds (P : Program) (l : Nat) (f : FuncId) (tmps : Array Value) (assign body : Code) (w : World) (K : Value → World → Prop) : Prop :=
  ∀ (c : Frame) (cs : List Frame), ∃ v w', K v w' ∧ Steps P (lone (Frame.round l f tmps assign body .normal) (c :: cs) w) (lone (c.finish v) cs w')

theorem Rounds.mono {P : Program} {l : Nat} {f : FuncId} {tmps : Array Value} {assign body : Code} {w : World} {K K' : Value → World → Prop} (h : Rounds P l f tmps assign body w K) (hk : ∀ v w, K v w → K' v w) : Rounds P l f tmps assign body w K' :=
  fun c cs => let ⟨v, w', h1, h2⟩ := h c cs; ⟨v, w', hk _ _ h1, h2⟩

/-- What one operation leads to. -/
def OpRuns (P : Program) (ρ : Env) (o : Oper) (w : World) (K : Value → World → Prop) : Prop :=
  match (execOp ρ.ev o).run P w with
  | .ok (.value v) w' => K v w'
  | .ok .skip w' => K undef w'
  | .ok (.enter f args) w' => Calls P f args w' fun
    | .returned v, w'' => K v w''
    | _, _ => False
  | .ok (.row row args) w' => Rows P row args w' fun v w'' => K v w''
  | .ok (.round l f tmps assign body) w' => Rounds P l f tmps assign body w' K
  | _ => False

theorem OpRuns.mono {P : Program} {ρ : Env} {o : Oper} {w : World} {K K' : Value → World → Prop} (h : OpRuns P ρ o w K) (hk : ∀ v w, K v w → K' v w) : OpRuns P ρ o w K' := by
  unfold OpRuns at h ⊢
  split at h
  · exact hk _ _ h
  · exact hk _ _ h
  · exact h.mono fun e w' he => by cases e <;> first | exact hk _ _ he | exact he
  · exact h.mono fun v w' he => hk _ _ he
  · exact h.mono hk
  · exact h.elim

section
variable {P : Program} {X : FK} {L : Option Code → Env → World → Prop} {k : List Item} {ρ : Env} {w : World} {ops : Array Oper}

theorem FK.finish (X : FK) (a : Act) (ops : Array Oper) (i : Nat) (rest : List Nat) (k : List Item) (v : Value) :
    (X.fr a (.inRegion ops (i :: rest) :: k)).finish v = X.fr (a.put ((ops[i]?).bind (·.dst)) v) (.inRegion ops rest :: k) := by
  cases h : (ops[i]?).bind (·.dst) <;> simp [Frame.finish, FK.fr, Act.put, h]

theorem FK.stepG_op {a : Act} {cs : List Frame} {i : Nat} {rest : List Nat} {o : Oper} (ho : ops[i]? = some o) (hw : Region.wanted o (yielded ops a.tmps) = true)
    (hdf : ∀ c, o.op ≠ .defer c) :
    stepG P true { frame := X.fr a (.inRegion ops (i :: rest) :: k), callers := cs, status := .running, dying := none } w =
      stepG.apply P true (X.fr a (.inRegion ops (i :: rest) :: k)) cs none (execOp a.eval o) w := by
  have he := FK.eval X a (.inRegion ops (i :: rest) :: k)
  simp only [FK.fr] at he
  simp only [stepG, stepG.exec, stepG.oper, Frame.oper?, FK.fr, ho, hw, he, Option.map_some, Option.getD_some, if_true]
  cases hr : X.ro with
  | none => rfl
  | some l =>
    cases hop : o.op <;> first | rfl | exact absurd hop (hdf _)

theorem Goes.op {i : Nat} {rest : List Nat} {o : Oper} (ho : ops[i]? = some o) (hdf : ∀ c, o.op ≠ .defer c) (hd : dstOk X.n o.dst = true)
    (hw : Region.wanted o (ρ.yielded ops) = true)
    (h : OpRuns P ρ o w fun v w' => Goes P X L (.inRegion ops rest :: k) (ρ.put o.dst v) w') : Goes P X L (.inRegion ops (i :: rest) :: k) ρ w := by
  intro a cs ha
  have hg := FK.stepG_op (P := P) (X := X) (w := w) (a := a) (cs := cs) (k := k) (rest := rest) ho (by rw [yielded_eq ha]; exact hw) hdf
  have hfin : ∀ v, (X.fr a (.inRegion ops (i :: rest) :: k)).finish v = X.fr (a.put o.dst v) (.inRegion ops rest :: k) := by
    intro v; rw [FK.finish, ho]; rfl
  rw [ha.eval] at hg
  have hkind : (match (X.fr a (.inRegion ops (i :: rest) :: k)).todo with | .call _ true _ _ :: _ => CallKind.wrapped | _ => .normal) = .normal := rfl
  unfold OpRuns at h
  split at h
  · rename_i v w' hr
    obtain ⟨j, ρ', a', w'', t, hL, hsim, hst, hat⟩ := h _ cs (ha.put hd v)
    refine ⟨j, ρ', a', w'', t, hL, hsim, .head (step_lone_go ?_) hst, hat⟩
    rw [hg, ← hfin]; simp [stepG.apply, hr]
  · rename_i w' hr
    obtain ⟨j, ρ', a', w'', t, hL, hsim, hst, hat⟩ := h _ cs (ha.put hd undef)
    refine ⟨j, ρ', a', w'', t, hL, hsim, .head (step_lone_go ?_) hst, hat⟩
    rw [hg, ← hfin]; simp [stepG.apply, hr]
  · rename_i f args w' hr
    obtain ⟨e, w'', fr, hR, hcomes, _, hleave⟩ := h (X.fr a (.inRegion ops (i :: rest) :: k) :: cs)
    cases e with
    | panicked chain => exact hR.elim
    | outgrown => exact hR.elim
    | returned v =>
      obtain ⟨j, ρ', a', w₃, t, hL, hsim, hst, hat⟩ := hR _ cs (ha.put hd v)
      refine ⟨j, ρ', a', w₃, t, hL, hsim, ?_, hat⟩
      have henter : step P (lone (X.fr a (.inRegion ops (i :: rest) :: k)) cs w) =
          .next (lone (Frame.enter P f args .normal) (X.fr a (.inRegion ops (i :: rest) :: k) :: cs) w') :=
        step_lone_go (by rw [hg]; simp [stepG.apply, hr, FK.fr])
      refine .head henter (.trans hcomes (.head (step_leave_returned hleave) ?_))
      rw [hfin]; exact hst
  · rename_i row args w' hr
    obtain ⟨v, w'', hR, hst1⟩ := h (X.fr a (.inRegion ops (i :: rest) :: k)) cs
    obtain ⟨j, ρ', a', w₃, t, hL, hsim, hst, hat⟩ := hR _ cs (ha.put hd v)
    refine ⟨j, ρ', a', w₃, t, hL, hsim, ?_, hat⟩
    have henter : step P (lone (X.fr a (.inRegion ops (i :: rest) :: k)) cs w) =
        .next (lone (Frame.ofRow P row args .normal) (X.fr a (.inRegion ops (i :: rest) :: k) :: cs) w') :=
      step_lone_go (by rw [hg]; simp [stepG.apply, hr, FK.fr])
    refine .head henter (.trans hst1 ?_)
    rw [hfin]; exact hst
  · rename_i l f tmps assign body w' hr
    obtain ⟨v, w'', hR, hst1⟩ := h (X.fr a (.inRegion ops (i :: rest) :: k)) cs
    obtain ⟨j, ρ', a', w₃, t, hL, hsim, hst, hat⟩ := hR _ cs (ha.put hd v)
    refine ⟨j, ρ', a', w₃, t, hL, hsim, ?_, hat⟩
    have henter : step P (lone (X.fr a (.inRegion ops (i :: rest) :: k)) cs w) =
        .next (lone (Frame.round l f tmps assign body .normal) (X.fr a (.inRegion ops (i :: rest) :: k) :: cs) w') :=
      step_lone_go (by rw [hg]; simp [stepG.apply, hr, FK.fr])
    refine .head henter (.trans hst1 ?_)
    rw [hfin]; exact hst
  · exact h.elim

theorem Goes.opSkip {i : Nat} {rest : List Nat} {o : Oper} (ho : ops[i]? = some o) (hd : dstOk X.n o.dst = true)
    (hw : Region.wanted o (ρ.yielded ops) = false)
    (h : Goes P X L (.inRegion ops rest :: k) (ρ.put o.dst undef) w) : Goes P X L (.inRegion ops (i :: rest) :: k) ρ w := by
  intro a cs ha
  obtain ⟨j, ρ', a', w'', t, hL, hsim, hst, hat⟩ := h _ cs (ha.put hd undef)
  refine ⟨j, ρ', a', w'', t, hL, hsim, .head (step_lone_go ?_) hst, hat⟩
  have hw' : Region.wanted o (yielded ops a.tmps) = false := by rw [yielded_eq ha]; exact hw
  have : X.fr (a.put o.dst undef) (.inRegion ops rest :: k) = (X.fr a (.inRegion ops (i :: rest) :: k)).finish undef := by rw [FK.finish, ho]; rfl
  rw [this]
  simp [stepG, stepG.exec, FK.fr, ho, hw']

theorem Goes.opsEnd (h : Goes P X L k ρ w) : Goes P X L (.inRegion ops [] :: k) ρ w :=
  .of_step (fun a cs ha => ⟨a, ha, step_lone_go (by simp [stepG, stepG.exec, FK.fr])⟩) h

/-- The operations of a region, in the order of the text, from one on. -/
def GoL (P : Program) (X : FK) (L : Option Code → Env → World → Prop) (k : List Item) (ops : Array Oper) (l : List Oper) (ρ : Env) (w : World) : Prop :=
  ∀ i, (∀ j, l[j]? = ops[i + j]?) → Goes P X L (.inRegion ops (List.range' i l.length) :: k) ρ w

theorem Goes.region {id : Nat} {l : List Oper} (h : GoL P X L k l.toArray l ρ w) : Goes P X L (.code (.region id l.toArray false) :: k) ρ w := by
  refine .of_step (ρ' := ρ) (w' := w) (todo' := .inRegion l.toArray (List.range l.toArray.size) :: k) (fun a cs ha => ⟨a, ha, step_lone_go (by simp [stepG, stepG.exec, FK.fr])⟩) ?_
  have := h 0 (by simp)
  rwa [List.size_toArray, List.range_eq_range']

def noDefer : Op → Bool
  | .defer _ => false
  | _ => true
theorem noDefer_ne {o : Op} (h : noDefer o = true) : ∀ c, o ≠ .defer c := by
  intro c e; subst e; simp [noDefer] at h

theorem GoL.nil (h : Goes P X L k ρ w) : GoL P X L k ops [] ρ w := fun _ _ => .opsEnd h

theorem GoL.stepG {o : Oper} {rest : List Oper} (hdf : noDefer o.op = true) (hd : dstOk X.n o.dst = true) (hw : Region.wanted o (ρ.yielded ops) = true)
    (h : OpRuns P ρ o w fun v w' => GoL P X L k ops rest (ρ.put o.dst v) w') : GoL P X L k ops (o :: rest) ρ w := by
  intro i hi
  have h0 : ops[i]? = some o := by simpa using (hi 0).symm
  have hr : ∀ j, rest[j]? = ops[i + 1 + j]? := fun j => by have := hi (j + 1); simpa [Nat.add_assoc, Nat.add_comm 1 j] using this
  rw [List.length_cons, List.range'_succ]
  exact .op h0 (noDefer_ne hdf) hd hw (h.mono fun v w' hv => hv (i + 1) hr)

/-- An operation without a guard. -/
theorem GoL.step {dst : Option Tmp} {op : Op} {ty : TypeId} {pos : String} {aft : Array Edge} {rest : List Oper} (hdf : noDefer op = true) (hd : dstOk X.n dst = true)
    (h : OpRuns P ρ ⟨dst, op, ty, pos, aft, none⟩ w fun v w' => GoL P X L k ops rest (ρ.put dst v) w') :
    GoL P X L k ops (⟨dst, op, ty, pos, aft, none⟩ :: rest) ρ w :=
  GoL.stepG hdf hd rfl h

/-- A guarded operation whose guard says yes. -/
theorem GoL.stepY {dst : Option Tmp} {op : Op} {ty : TypeId} {pos : String} {aft : Array Edge} {j : Nat} {want : Bool} {rest : List Oper} (hdf : noDefer op = true) (hd : dstOk X.n dst = true)
    (hy : ρ.yielded ops j = some want)
    (h : OpRuns P ρ ⟨dst, op, ty, pos, aft, some (j, want)⟩ w fun v w' => GoL P X L k ops rest (ρ.put dst v) w') :
    GoL P X L k ops (⟨dst, op, ty, pos, aft, some (j, want)⟩ :: rest) ρ w :=
  GoL.stepG hdf hd (by simp [Region.wanted, hy]) h

/-- A guarded operation whose guard says no. -/
theorem GoL.stepN {dst : Option Tmp} {op : Op} {ty : TypeId} {pos : String} {aft : Array Edge} {j : Nat} {want : Bool} {rest : List Oper} (hd : dstOk X.n dst = true)
    (hy : ρ.yielded ops j ≠ some want)
    (h : GoL P X L k ops rest (ρ.put dst undef) w) :
    GoL P X L k ops (⟨dst, op, ty, pos, aft, some (j, want)⟩ :: rest) ρ w := by
  intro i hi
  have h0 : ops[i]? = some ⟨dst, op, ty, pos, aft, some (j, want)⟩ := by simpa using (hi 0).symm
  have hr : ∀ m, rest[m]? = ops[i + 1 + m]? := fun m => by have := hi (m + 1); simpa [Nat.add_assoc, Nat.add_comm 1 m] using this
  rw [List.length_cons, List.range'_succ]
  exact .opSkip h0 hd (by simp [Region.wanted, hy]) (h (i + 1) hr)

end

/-! ### Loops over functions -/
section
variable {P : Program} {X : FK} {L : Option Code → Env → World → Prop} {k : List Item} {ρ : Env} {w w' : World}

theorem Goes.beginRound {l : Nat} (hX : X.ro = some l) (hr : (Instr.beginRound l).run P w = .ok () w') (h : Goes P X L k ρ w') : Goes P X L (.beginRound :: k) ρ w := by
  exact .of_step (fun a cs ha => ⟨a, ha, step_lone_go (by simp [stepG, stepG.exec, stepG.apply, FK.fr, hX, hr, Frame.finish])⟩) h
theorem Goes.endRangeFunc {l : Nat} {j : Option Code} (hr : (Instr.endLoop l).run P w = .ok j w') (h : Goes P X L ((j.map Item.code).toList ++ k) ρ w') : Goes P X L (.endRangeFunc l :: k) ρ w :=
  .of_step (fun a cs ha => ⟨a, ha, step_lone_go (by simp [stepG, stepG.exec, FK.fr, hr])⟩) h

/-- A round, by its frame's way. -/
theorem rounds_of_goes {l n : Nat} {f : FuncId} {tmps : Array Value} {assign body : Code} {K : Value → World → Prop} (hs : Sim n ⟨tmps, []⟩ ρ)
    (h : Goes P ⟨f, n, some l⟩ (fun j _ w => ∃ w', (Instr.endRound l j).run P w = .ok (.bool j.isNone) w' ∧ K (.bool j.isNone) w') [.code assign, .beginRound, .code body] ρ w) :
    Rounds P l f tmps assign body w K := by
  intro c cs
  obtain ⟨j, ρ', a', w₁, todo', ⟨w₂, hr, hK⟩, hsim, hst, hat⟩ := h ⟨tmps, []⟩ (c :: cs) hs
  refine ⟨_, w₂, hK, .trans hst (.one (step_lone_go ?_))⟩
  cases j with
  | none =>
    obtain rfl := hat
    simp [Go.stepG, stepG.exec, FK.fr, hr, doReturn]
  | some j =>
    cases j with
    | ret =>
      obtain ⟨k, rfl⟩ := hat
      simp [Go.stepG, stepG.exec, FK.fr, hr, doReturn]
    | exit id =>
      obtain ⟨k, rfl, hk⟩ := hat
      simp [Go.stepG, stepG.exec, FK.fr, hr, doReturn, hk]
    | _ => exact hat.elim

/-- A loop over a function: the loop is laid, the function is called with its yield function, and the loop is left. -/
theorem Goes.rangeFunc {fo : Operand} {params : Array Tmp} {assign body : Code} {g : FuncId} {caps : Array Value} (hX : X.ro = none) (hf : ρ.ev fo = .func (.func g) #[] caps)
    (hc : ∀ args w, (callFunc g args).run P w = .ok (.enter g args) w)
    (h : ∀ a : Act, Sim X.n a ρ → ∃ l r w1, (Instr.enterLoop X.f a.tmps params assign body none).run P w = .ok (l, [{ target := .collected r, args := #[] }]) w1 ∧
      Calls P g (#[.func (.yield l) #[] #[]] ++ caps) w1 fun e w2 => ∃ v, e = .returned v ∧ Goes P X L (.endRangeFunc l :: k) (.dfr r ρ) w2) :
    Goes P X L (.code (.rangeFunc fo params assign body) :: k) ρ w := by
  intro a cs ha
  obtain ⟨l, r, w1, hen, hcall⟩ := h a ha
  have ha' : Sim X.n { a with defers := { target := .collected r, args := #[] } :: a.defers } (.dfr r ρ) := ⟨by rw [Env.ds_dfr, List.map_cons, ha.defers], ha.size, ha.get⟩
  obtain ⟨e, w2, fr, ⟨v, rfl, hgo⟩, hcomes, _, hleave⟩ := hcall (X.fr { a with defers := { target := .collected r, args := #[] } :: a.defers } (.inRangeFunc l :: k) :: cs)
  obtain ⟨j, ρ', a', w₃, t, hL, hsim, hst, hat⟩ := hgo _ cs ha'
  refine ⟨j, ρ', a', w₃, t, hL, hsim, ?_, hat⟩
  have he : (X.fr { a with defers := { target := .collected r, args := #[] } :: a.defers } (.inRangeFunc l :: k)).eval = ρ.ev := by rw [FK.eval]; exact ha'.eval
  have hres : ((do let d ← resolve ρ.ev { callee := .value fo, args := #[.const (.func (.yield l) #[] #[])], argTypes := #[] } 0; invoke d.target d.args) : Sem Next).run P w1 = .ok (.enter g (#[.func (.yield l) #[] #[]] ++ caps)) w1 := by
    have e1 : resolve ρ.ev { callee := .value fo, args := #[.const (.func (.yield l) #[] #[])], argTypes := #[] } 0 = Deferred.ofValue (ρ.ev fo) #[.func (.yield l) #[] #[]] := by simp [resolve, Env.ev]
    rw [e1, hf]
    show (callFunc g ((#[] ++ #[.func (.yield l) #[] #[]]) ++ caps)).run P w1 = _
    rw [hc]; simp
  have henter : step P (lone (X.fr a (.code (.rangeFunc fo params assign body) :: k)) cs w) =
      .next (lone (Frame.enter P g (#[.func (.yield l) #[] #[]] ++ caps) .normal) (X.fr { a with defers := { target := .collected r, args := #[] } :: a.defers } (.inRangeFunc l :: k) :: cs) w1) := by
    refine step_lone_go ?_
    simp only [FK.fr, hX] at he
    simp [Go.stepG, stepG.exec, FK.fr, hX, hen, stepG.apply, he, hres]
  refine .head henter (.trans hcomes (.head (step_leave_returned hleave) ?_))
  exact hst

/-- What the loops have gathered is taken at the end. -/
inductive Takes (P : Program) : List Nat → World → World → Prop
  | nil {w : World} : Takes P [] w w
  | cons {b : Nat} {D : List Nat} {w w1 w' : World} : (Instr.takeDeferred b).run P w = .ok [] w1 → Takes P D w1 w' → Takes P (b :: D) w w'

theorem Takes.steps {D : List Nat} (h : Takes P D w w') : ∀ (fr : Frame) (cs : List Frame), fr.mode = .returning → fr.defers = D.map (fun b => { target := .collected b, args := #[] }) →
    Steps P (lone fr cs w) (lone { fr with defers := [] } cs w') := by
  induction h with
  | nil =>
    intro fr cs _ hd
    have : { fr with defers := [] } = fr := by cases fr; simp at hd; simp [hd]
    rw [this]; exact .refl _ _
  | @cons b D w w1 w' hr _ ih =>
    intro fr cs hm hd
    refine .head (step_lone_go (fr' := { fr with defers := D.map (fun b => { target := .collected b, args := #[] }) }) (cs' := cs) (w' := w1) ?_) (ih { fr with defers := D.map (fun b => { target := .collected b, args := #[] }) } cs hm rfl)
    simp [Go.stepG, hm, unwind, hd, hr]
end

/-! ### Functions -/

/-- Entering a function; what it returns is read off its result variables. -/
theorem calls_of_goes {P : Program} {f : FuncId} {fn : Func} {c : Code} {args : List Value} {w : World} {R : Value → World → Prop}
    (hf : P.funcs[f]? = some fn) (hb : fn.body = some c) (hn : args.length ≤ fn.ntmps)
    (h : Goes P ⟨f, fn.ntmps, none⟩ (fun j ρ w₀ => (j = none ∨ j = some .ret) ∧ ∃ w, Takes P ρ.ds w₀ w ∧ ∃ v, (∀ tmps : Array Value, (∀ i, tmps.getD i undef = ρ.get i) → (results fn tmps).run P w = .ok v w) ∧ R v w)
      [.code c] (Env.args args) w) :
    Calls P f args.toArray w fun e w' => ∃ v, e = .returned v ∧ R v w' := by
  intro cs
  obtain ⟨j, ρ', a', w₀, todo', ⟨hj, w', htake, v, hv, hR⟩, hsim, hst, hat⟩ := h { tmps := args.toArray ++ Array.replicate (fn.ntmps - args.length) undef, defers := [] } cs
    ⟨rfl, by simp; omega, fun i => by
      show _ = args.getD i undef
      rw [Array.getD_eq_getD_getElem?, List.getD_eq_getElem?_getD]
      rw [Array.getElem?_append]
      split
      · simp
      · rename_i hi
        rw [Array.getElem?_replicate]
        have : args[i]? = none := by apply List.getElem?_eq_none; simpa using hi
        rw [this]; split <;> rfl⟩
  have henter : Frame.enter P f args.toArray .normal =
      FK.fr ⟨f, fn.ntmps, none⟩ { tmps := args.toArray ++ Array.replicate (fn.ntmps - args.length) undef, defers := [] } [.code c] := by
    simp [Frame.enter, FK.fr, hf, hb]
  rw [← henter] at hst
  refine ⟨.returned v, w', { FK.fr ⟨f, fn.ntmps, none⟩ a' todo' with mode := .returning, defers := [] }, ⟨v, rfl, hR⟩, ?_, rfl, rfl, rfl, rfl, fn, hf, ?_⟩
  · refine .trans hst (.trans (.one (step_lone_go ?_)) (htake.steps { FK.fr ⟨f, fn.ntmps, none⟩ a' todo' with mode := .returning } cs rfl hsim.defers))
    rcases hj with rfl | rfl
    · obtain rfl := hat
      simp [Go.stepG, stepG.exec, FK.fr]
    · obtain ⟨k, rfl⟩ := hat
      simp [Go.stepG, stepG.exec, FK.fr]
  · exact hv _ hsim.get

end Go.Sx
namespace Go.Sx

abbrev RO := Nat → Option Obj
def RO.le (M M' : RO) : Prop := ∀ b o, M b = some o → M' b = some o
theorem RO.le.refl (M : RO) : M.le M := fun _ _ h => h
theorem RO.le.trans {A B C : RO} (h : A.le B) (k : B.le C) : A.le C := fun b o x => k b o (h b o x)
def RO.put (M : RO) (b : Nat) (o : Obj) : RO := fun x => if x = b then some o else M x
theorem RO.put_self (M : RO) (b : Nat) (o : Obj) : M.put b o b = some o := by simp [RO.put]
theorem RO.le_put {M : RO} {b : Nat} (h : M b = none) (o : Obj) : M.le (M.put b o) := by
  intro x y hx
  unfold RO.put
  by_cases e : x = b
  · subst e; rw [h] at hx; cases hx
  · rw [if_neg e]; exact hx

abbrev Own := List (Nat × Obj)
abbrev HProp := Own → Prop

structure Ent where
  w : World
  S : List Nat
  M : RO
  dr : Bool

structure Hp0 (E : Ent) (M : RO) (F : Own) (w : World) : Prop where
  os : w.os = E.w.os
  tape : w.tape = E.w.tape
  output : w.output = E.w.output
  drew : E.dr = true → E.w.drawn ≤ w.drawn
  size : E.w.heap.size ≤ w.heap.size
  frame : ∀ b, b < E.w.heap.size → b ∉ E.S → w.heap[b]? = E.w.heap[b]?
  le : E.M.le M
  fresh : ∀ b, M b ≠ none → E.M b ≠ none ∨ b ∈ E.S ∨ E.w.heap.size ≤ b
  ro : ∀ b o, M b = some o → w.heap[b]? = some o
  own : ∀ p ∈ F, w.heap[p.1]? = some p.2
  nodup : (F.map Prod.fst).Nodup
  apart : ∀ p ∈ F, M p.1 = none
  new : ∀ p ∈ F, p.1 ∈ E.S ∨ E.w.heap.size ≤ p.1

theorem Hp0.perm {E : Ent} {M : RO} {F F' : Own} {w : World} (h : Hp0 E M F w) (hp : F.Perm F') : Hp0 E M F' w :=
  { h with
    own := fun p hq => h.own p (hp.mem_iff.2 hq)
    nodup := (hp.map Prod.fst).nodup_iff.1 h.nodup
    apart := fun p hq => h.apart p (hp.mem_iff.2 hq)
    new := fun p hq => h.new p (hp.mem_iff.2 hq) }

theorem Hp0.sub {E : Ent} {M : RO} {F F' : Own} {w : World} (h : Hp0 E M F w) (hs : F'.Sublist F) : Hp0 E M F' w :=
  { h with
    own := fun p hq => h.own p (hs.subset hq)
    nodup := h.nodup.sublist (hs.map Prod.fst)
    apart := fun p hq => h.apart p (hs.subset hq)
    new := fun p hq => h.new p (hs.subset hq) }

theorem Hp0.lt {E : Ent} {M : RO} {F : Own} {w : World} (h : Hp0 E M F w) {p : Nat × Obj} (hp : p ∈ F) : p.1 < w.heap.size := by
  have := h.own p hp
  rcases Nat.lt_or_ge p.1 w.heap.size with h' | h'
  · exact h'
  · rw [Array.getElem?_eq_none h'] at this; cases this

theorem Hp0.ro_lt {E : Ent} {M : RO} {F : Own} {w : World} (h : Hp0 E M F w) {b : Nat} {o : Obj} (hb : M b = some o) : b < w.heap.size := by
  have := h.ro b o hb
  rcases Nat.lt_or_ge b w.heap.size with h' | h'
  · exact h'
  · rw [Array.getElem?_eq_none h'] at this; cases this

def Star : List HProp → Own → Prop
  | [], F => F = []
  | c :: L, F => ∃ A B, c A ∧ Star L B ∧ F = A ++ B

theorem Star.append {L L' : List HProp} : ∀ {F : Own}, Star (L ++ L') F ↔ ∃ A B, Star L A ∧ Star L' B ∧ F = A ++ B := by
  induction L with
  | nil => intro F; simp [Star]
  | cons c L ih =>
    intro F
    simp only [List.cons_append, Star, ih]
    constructor
    · rintro ⟨A, B, hc, ⟨A', B', h1, h2, rfl⟩, rfl⟩
      exact ⟨A ++ A', B', ⟨A, A', hc, h1, rfl⟩, h2, by simp⟩
    · rintro ⟨A, B, ⟨A1, A2, hc, h1, rfl⟩, h2, rfl⟩
      exact ⟨A1, A2 ++ B, hc, ⟨A2, B, h1, h2, rfl⟩, by simp⟩

/-- Of what is known of memory: L, chunk by chunk. -/
def Hp (E : Ent) (M : RO) (L : List HProp) (w : World) : Prop := ∃ F, Star L F ∧ Hp0 E M F w

/-- Place i of a list. -/
inductive At {α : Type} : List α → Nat → α → Prop
  | head {a : α} {l : List α} : At (a :: l) 0 a
  | tail {a b : α} {l : List α} {i : Nat} : At l i a → At (b :: l) (i + 1) a

theorem Star.focus {L : List HProp} {i : Nat} {c : HProp} (hi : At L i c) : ∀ {F : Own}, Star L F →
    ∃ A R, c A ∧ F.Perm (A ++ R) ∧ (∀ (c' : HProp) A', c' A' → ∃ F', Star (L.set i c') F' ∧ F'.Perm (A' ++ R)) ∧ (∃ F', Star (L.eraseIdx i) F' ∧ F'.Perm R) := by
  induction hi with
  | head =>
    rintro F ⟨A, B, hc, hs, rfl⟩
    exact ⟨A, B, hc, .refl _, fun c' A' h' => ⟨A' ++ B, ⟨A', B, h', hs, rfl⟩, .refl _⟩, B, hs, .refl _⟩
  | tail _ ih =>
    rintro F ⟨A, B, hc, hs, rfl⟩
    obtain ⟨A₁, R, h1, hp, hset, F', hF', hFp⟩ := ih hs
    refine ⟨A₁, A ++ R, h1, ?_, fun c' A' h' => ?_, A ++ F', ⟨A, F', hc, hF', rfl⟩, hFp.append_left A⟩
    · refine (hp.append_left A).trans ?_
      rw [← List.append_assoc, ← List.append_assoc]
      exact List.perm_append_comm.append_right R
    · obtain ⟨F₁, hs₁, hp₁⟩ := hset c' A' h'
      refine ⟨A ++ F₁, ⟨A, F₁, hc, hs₁, rfl⟩, (hp₁.append_left A).trans ?_⟩
      rw [← List.append_assoc, ← List.append_assoc]
      exact List.perm_append_comm.append_right R

section
variable {E : Ent} {M : RO} {L : List HProp} {w : World}

theorem Hp.focus {i : Nat} {c : HProp} (h : Hp E M L w) (hi : At L i c) :
    ∃ A R, c A ∧ Hp0 E M (A ++ R) w ∧ (∀ (E' : Ent) (M' : RO) (w' : World) (c' : HProp) A', c' A' → Hp0 E' M' (A' ++ R) w' → Hp E' M' (L.set i c') w') ∧
      (∀ (E' : Ent) (M' : RO) (w' : World), Hp0 E' M' R w' → Hp E' M' (L.eraseIdx i) w') := by
  obtain ⟨F, hs, h0⟩ := h
  obtain ⟨A, R, hc, hp, hset, F', hF', hFp⟩ := Star.focus hi hs
  refine ⟨A, R, hc, h0.perm hp, fun E' M' w' c' A' h' h0' => ?_, fun E' M' w' h0' => ⟨F', hF', h0'.perm hFp.symm⟩⟩
  obtain ⟨F₁, hs₁, hp₁⟩ := hset c' A' h'
  exact ⟨F₁, hs₁, h0'.perm hp₁.symm⟩

theorem Hp.drop {i : Nat} {c : HProp} (h : Hp E M L w) (hi : At L i c) : Hp E M (L.eraseIdx i) w := by
  obtain ⟨A, R, _, h0, _, her⟩ := h.focus hi
  exact her E M w (h0.sub (List.sublist_append_right A R))

theorem Hp.nil (h : Hp E M L w) : Hp E M [] w := by
  obtain ⟨F, _, h0⟩ := h
  exact ⟨[], rfl, h0.sub (List.nil_sublist F)⟩

theorem Hp.app {L' : List HProp} (h : Hp E M (L ++ L') w) : ∃ A B, Star L A ∧ Star L' B ∧ Hp0 E M (A ++ B) w := by
  obtain ⟨F, hs, h0⟩ := h
  obtain ⟨A, B, h1, h2, rfl⟩ := Star.append.1 hs
  exact ⟨A, B, h1, h2, h0⟩

theorem Hp.left {L' : List HProp} (h : Hp E M (L ++ L') w) : Hp E M L w := by
  obtain ⟨A, B, h1, _, h0⟩ := h.app
  exact ⟨A, h1, h0.sub (List.sublist_append_left A B)⟩

theorem Hp.swap {L' : List HProp} (h : Hp E M (L ++ L') w) : Hp E M (L' ++ L) w := by
  obtain ⟨A, B, h1, h2, h0⟩ := h.app
  exact ⟨B ++ A, Star.append.2 ⟨B, A, h2, h1, rfl⟩, h0.perm List.perm_append_comm⟩

theorem Hp.right {L' : List HProp} (h : Hp E M (L ++ L') w) : Hp E M L' w := h.swap.left

/-- Chunk i comes to the front. -/
theorem Hp.front {i : Nat} {c : HProp} (h : Hp E M L w) (hi : At L i c) : Hp E M (c :: L.eraseIdx i) w := by
  obtain ⟨F, hs, h0⟩ := h
  obtain ⟨A, R, hc, hp, _, F', hF', hFp⟩ := Star.focus hi hs
  exact ⟨A ++ F', ⟨A, F', hc, hF', rfl⟩, h0.perm (hp.trans (hFp.symm.append_left A))⟩

/-- The frame rule: what is handed to a callee, and what stays behind. -/
theorem Hp.callD {Lin Lr : List HProp} (h : Hp E M (Lin ++ Lr) w) :
    ∃ E' : Ent, E'.dr = E.dr ∧ E'.w = w ∧ E'.M = M ∧ Hp E' M Lin w ∧ ∀ M' L' w', Hp E' M' L' w' → Hp E M' (L' ++ Lr) w' := by
  obtain ⟨A, B, h1, h2, h0⟩ := h.app
  refine ⟨⟨w, A.map Prod.fst, M, E.dr⟩, rfl, rfl, rfl, ⟨A, h1, ?_⟩, ?_⟩
  · exact {
      os := rfl, tape := rfl, output := rfl, drew := fun _ => Nat.le_refl _, size := Nat.le_refl _, frame := fun _ _ _ => rfl, le := .refl _, fresh := fun b hb => .inl hb
      ro := h0.ro, own := fun p hp => h0.own p (List.mem_append_left _ hp)
      nodup := h0.nodup.sublist ((List.sublist_append_left A B).map Prod.fst)
      apart := fun p hp => h0.apart p (List.mem_append_left _ hp)
      new := fun p hp => .inl (List.mem_map_of_mem hp) }
  · rintro M' L' w' ⟨A', hs', k⟩
    refine ⟨A' ++ B, Star.append.2 ⟨A', B, hs', h2, rfl⟩, ?_⟩
    have hnd := h0.nodup
    rw [List.map_append, List.nodup_append] at hnd
    have hB : ∀ p ∈ B, p.1 < w.heap.size ∧ p.1 ∉ A.map Prod.fst := fun p hp =>
      ⟨h0.lt (List.mem_append_right _ hp), fun hA => hnd.2.2 _ hA _ (List.mem_map_of_mem hp) rfl⟩
    have hkeep : ∀ p ∈ B, w'.heap[p.1]? = w.heap[p.1]? := fun p hp => k.frame p.1 (hB p hp).1 (hB p hp).2
    exact {
      os := k.os.trans h0.os, tape := k.tape.trans h0.tape, output := k.output.trans h0.output, drew := fun hd => Nat.le_trans (h0.drew hd) (k.drew hd)
      size := Nat.le_trans h0.size k.size
      frame := fun b hb hS => by
        rw [k.frame b (Nat.lt_of_lt_of_le hb h0.size) ?_]
        · exact h0.frame b hb hS
        · intro hA
          obtain ⟨p, hp, rfl⟩ := List.mem_map.1 hA
          rcases h0.new p (List.mem_append_left _ hp) with h' | h'
          · exact hS h'
          · omega
      le := h0.le.trans k.le
      fresh := fun b hb => by
        rcases k.fresh b hb with h' | h'
        · exact h0.fresh b h'
        · rcases h' with h' | h'
          · obtain ⟨q, hq, rfl⟩ := List.mem_map.1 h'
            exact .inr (h0.new q (List.mem_append_left _ hq))
          · exact .inr (.inr (Nat.le_trans h0.size h'))
      ro := k.ro
      own := fun p hp => by
        rcases List.mem_append.1 hp with hp | hp
        · exact k.own p hp
        · rw [hkeep p hp]; exact h0.own p (List.mem_append_right _ hp)
      nodup := by
        rw [List.map_append, List.nodup_append]
        refine ⟨k.nodup, hnd.2.1, fun x hx y hy e => ?_⟩
        subst e
        obtain ⟨p, hp, rfl⟩ := List.mem_map.1 hx
        obtain ⟨q, hq, he⟩ := List.mem_map.1 hy
        rcases k.new p hp with h' | h'
        · exact (hB q hq).2 (he ▸ h')
        · have := (hB q hq).1; rw [he] at this; exact absurd this (Nat.not_lt.2 h')
      apart := fun p hp => by
        rcases List.mem_append.1 hp with hp | hp
        · exact k.apart p hp
        · cases hM : M' p.1 with
          | none => rfl
          | some o =>
            rcases k.fresh p.1 (by rw [hM]; simp) with h' | h'
            · exact absurd (h0.apart p (List.mem_append_right _ hp)) h'
            · rcases h' with h' | h'
              · exact absurd h' (hB p hp).2
              · have := (hB p hp).1; exact absurd this (Nat.not_lt.2 h')
      new := fun p hp => by
        rcases List.mem_append.1 hp with hp | hp
        · rcases k.new p hp with h' | h'
          · obtain ⟨q, hq, he⟩ := List.mem_map.1 h'
            have := h0.new q (List.mem_append_left _ hq)
            rwa [he] at this
          · exact .inr (Nat.le_trans h0.size h')
        · exact h0.new p (List.mem_append_right _ hp) }

theorem Hp.call {Lin Lr : List HProp} (h : Hp E M (Lin ++ Lr) w) :
    ∃ E' : Ent, E'.w = w ∧ E'.M = M ∧ Hp E' M Lin w ∧ ∀ M' L' w', Hp E' M' L' w' → Hp E M' (L' ++ Lr) w' :=
  let ⟨E', _, h⟩ := h.callD; ⟨E', h⟩

/-- One owned block. -/
def pt (b : Nat) (o : Obj) : HProp := fun F => F = [(b, o)]

theorem Hp.le (h : Hp E M L w) : E.M.le M := let ⟨_, _, h0⟩ := h; h0.le
theorem Hp.ro (h : Hp E M L w) {b : Nat} {o : Obj} (hb : M b = some o) : w.heap[b]? = some o := let ⟨_, _, h0⟩ := h; h0.ro b o hb

theorem Hp.own {i b : Nat} {o : Obj} (h : Hp E M L w) (hi : At L i (pt b o)) : w.heap[b]? = some o := by
  obtain ⟨A, R, hc, h0, _⟩ := h.focus hi
  obtain rfl := hc
  exact h0.own (b, o) (by simp)

theorem Hp.draw (h : Hp E M L w) (d : Nat) (hd : w.drawn ≤ d) : Hp E M L { w with drawn := d } := by
  obtain ⟨F, hs, h0⟩ := h
  exact ⟨F, hs, { h0 with drew := fun hdr => Nat.le_trans (h0.drew hdr) hd }⟩

theorem Hp0.alloc {F : Own} (h : Hp0 E M F w) (o : Obj) : Hp0 E M ((w.heap.size, o) :: F) { w with heap := w.heap.push o } where
  os := h.os
  tape := h.tape
  output := h.output
  drew := h.drew
  size := by simp; have := h.size; omega
  frame := fun b hb hS => by
    have := h.size
    show (w.heap.push o)[b]? = _
    rw [Array.getElem?_push, if_neg (by omega)]; exact h.frame b hb hS
  le := h.le
  fresh := h.fresh
  ro := fun b o' hb => by
    have := h.ro_lt hb
    show (w.heap.push o)[b]? = _
    rw [Array.getElem?_push, if_neg (by omega)]; exact h.ro b o' hb
  own := fun p hp => by
    show (w.heap.push o)[p.1]? = _
    rcases List.mem_cons.1 hp with rfl | hp
    · simp
    · have := h.lt hp
      rw [Array.getElem?_push, if_neg (by omega)]; exact h.own p hp
  nodup := by
    rw [List.map_cons, List.nodup_cons]
    refine ⟨fun hm => ?_, h.nodup⟩
    obtain ⟨p, hp, he⟩ := List.mem_map.1 hm
    have h1 := h.lt hp
    have h2 : p.1 = w.heap.size := he
    omega
  apart := fun p hp => by
    rcases List.mem_cons.1 hp with rfl | hp
    · cases hM : M w.heap.size with
      | none => rfl
      | some o' => exact absurd (h.ro_lt hM) (Nat.lt_irrefl _)
    · exact h.apart p hp
  new := fun p hp => by
    rcases List.mem_cons.1 hp with rfl | hp
    · exact .inr h.size
    · exact h.new p hp

theorem Hp.alloc (h : Hp E M L w) (o : Obj) : Hp E M (pt w.heap.size o :: L) { w with heap := w.heap.push o } := by
  obtain ⟨F, hs, h0⟩ := h
  exact ⟨(w.heap.size, o) :: F, ⟨[(w.heap.size, o)], F, rfl, hs, rfl⟩, h0.alloc o⟩

theorem Hp.ent_size (h : Hp E M L w) : E.w.heap.size ≤ w.heap.size := let ⟨_, _, h0⟩ := h; h0.size

/-- An owned block is turned: whatever world w' has the block so and all else as it was. -/
theorem Hp0.turn {R : Own} {b : Nat} {o o' : Obj} {w' : World} (h : Hp0 E M ((b, o) :: R) w) (hos : w'.os = w.os) (ht : w'.tape = w.tape) (hout : w'.output = w.output) (hdr : w'.drawn = w.drawn)
    (hsz : w'.heap.size = w.heap.size) (hb : w'.heap[b]? = some o') (hk : ∀ k, k ≠ b → w'.heap[k]? = w.heap[k]?) : Hp0 E M ((b, o') :: R) w' where
  os := hos.trans h.os
  tape := ht.trans h.tape
  output := hout.trans h.output
  drew := fun hd => by rw [hdr]; exact h.drew hd
  size := by rw [hsz]; exact h.size
  frame := fun x hx hS => by
    rw [hk x ?_]
    · exact h.frame x hx hS
    · rintro rfl
      rcases h.new (x, o) (by simp) with h' | h'
      · exact hS h'
      · exact absurd hx (Nat.not_lt.2 h')
  le := h.le
  fresh := h.fresh
  ro := fun x y hx => by
    rw [hk x ?_]
    · exact h.ro x y hx
    · rintro rfl
      have := h.apart (x, o) (by simp)
      rw [hx] at this; cases this
  own := fun p hp => by
    rcases List.mem_cons.1 hp with rfl | hp
    · exact hb
    · rw [hk p.1 ?_]
      · exact h.own p (List.mem_cons_of_mem _ hp)
      · intro e
        have hnd := h.nodup
        rw [List.map_cons, List.nodup_cons] at hnd
        exact hnd.1 (List.mem_map.2 ⟨p, hp, e⟩)
  nodup := by have := h.nodup; simpa using this
  apart := fun p hp => by
    rcases List.mem_cons.1 hp with rfl | hp
    · exact h.apart (b, o) (by simp)
    · exact h.apart p (List.mem_cons_of_mem _ hp)
  new := fun p hp => by
    rcases List.mem_cons.1 hp with rfl | hp
    · exact h.new (b, o) (by simp)
    · exact h.new p (List.mem_cons_of_mem _ hp)

theorem Hp.turn {i b : Nat} {o o' : Obj} {w' : World} (h : Hp E M L w) (hi : At L i (pt b o)) (hos : w'.os = w.os) (ht : w'.tape = w.tape) (hout : w'.output = w.output) (hdr : w'.drawn = w.drawn)
    (hsz : w'.heap.size = w.heap.size) (hb : w'.heap[b]? = some o') (hk : ∀ k, k ≠ b → w'.heap[k]? = w.heap[k]?) : Hp E M (L.set i (pt b o')) w' := by
  obtain ⟨A, R, hc, h0, hset, _⟩ := h.focus hi
  obtain rfl := hc
  exact hset E M w' (pt b o') [(b, o')] rfl (h0.turn hos ht hout hdr hsz hb hk)

/-- An owned block becomes read-only for good. -/
theorem Hp0.freeze {R : Own} {b : Nat} {o : Obj} (h : Hp0 E M ((b, o) :: R) w) : Hp0 E (M.put b o) R w where
  os := h.os
  tape := h.tape
  output := h.output
  drew := h.drew
  size := h.size
  frame := h.frame
  le := h.le.trans (RO.le_put (h.apart (b, o) (by simp)) o)
  fresh := fun x hx => by
    by_cases e : x = b
    · subst e; exact .inr (h.new (x, o) (by simp))
    · exact h.fresh x (by simpa [RO.put, e] using hx)
  ro := fun x y hx => by
    by_cases e : x = b
    · subst e
      have : y = o := by simpa [RO.put] using hx.symm
      subst this; exact h.own (x, y) (by simp)
    · exact h.ro x y (by simpa [RO.put, e] using hx)
  own := fun p hp => h.own p (List.mem_cons_of_mem _ hp)
  nodup := by have := h.nodup; rw [List.map_cons, List.nodup_cons] at this; exact this.2
  apart := fun p hp => by
    have hne : p.1 ≠ b := by
      have := h.nodup; rw [List.map_cons, List.nodup_cons] at this
      intro e; exact this.1 (List.mem_map.2 ⟨p, hp, e⟩)
    simp [RO.put, hne, h.apart p (List.mem_cons_of_mem _ hp)]
  new := fun p hp => h.new p (List.mem_cons_of_mem _ hp)

theorem Hp.freeze {i b : Nat} {o : Obj} (h : Hp E M L w) (hi : At L i (pt b o)) : Hp E (M.put b o) (L.eraseIdx i) w ∧ M.le (M.put b o) := by
  obtain ⟨A, R, hc, h0, _, her⟩ := h.focus hi
  obtain rfl := hc
  exact ⟨her E _ w h0.freeze, RO.le_put (h0.apart (b, o) (by simp)) o⟩

end

/-! ### Contracts -/

/-- 'f' called with 'args' where M is read-only and Lin is handed over: it returns v, M has grown to M', what is handed back is L', and 'Post v M' L''. -/
def Sp (P : Program) (f : FuncId) (args : List Value) (M : RO) (Lin : List HProp) (Post : Value → RO → List HProp → Prop) : Prop :=
  ∀ E : Ent, E.M = M → Hp E M Lin E.w → Calls P f args.toArray E.w fun e w' => ∃ v M' L', e = .returned v ∧ Hp E M' L' w' ∧ Post v M' L'

theorem Sp.mono {P : Program} {f : FuncId} {args : List Value} {M : RO} {Lin : List HProp} {Post Post' : Value → RO → List HProp → Prop} (h : Sp P f args M Lin Post)
    (hp : ∀ v M' L', M.le M' → Post v M' L' → Post' v M' L') : Sp P f args M Lin Post' := fun E hE hH =>
  (h E hE hH).mono fun _ _ ⟨v, M', L', he, hh, hpost⟩ => ⟨v, M', L', he, hh, hp v M' L' (hE ▸ hh.le) hpost⟩

end Go.Sx
namespace Go.Sx

def Runs (P : Program) {α : Type} (s : Sem α) (w : World) (K : α → World → Prop) : Prop :=
  match s.run P w with
  | .ok a w' => K a w'
  | .halt _ _ => False

section
variable {P : Program} {w : World} {α β : Type}

theorem Runs.pure {K : α → World → Prop} {a : α} (h : K a w) : Runs P (Pure.pure a : Sem α) w K := h
theorem Runs.bind {s : Sem α} {f : α → Sem β} {K : β → World → Prop} (h : Runs P s w fun a w' => Runs P (f a) w' K) : Runs P (s >>= f) w K := by
  unfold Runs at h ⊢
  rw [Sem.run_bind]
  cases hs : s.run P w with
  | ok a w' => rw [hs] at h; exact h
  | halt x w' => rw [hs] at h; exact h.elim
theorem Runs.unbind {s : Sem α} {f : α → Sem β} {K : β → World → Prop} (h : Runs P (s >>= f) w K) : Runs P s w fun a w' => Runs P (f a) w' K := by
  unfold Runs at h ⊢
  rw [Sem.run_bind] at h
  cases hs : s.run P w with
  | ok a w' => rw [hs] at h; exact h
  | halt x w' => rw [hs] at h; exact h.elim
theorem Runs.mono {s : Sem α} {K K' : α → World → Prop} (h : Runs P s w K) (hk : ∀ a w, K a w → K' a w) : Runs P s w K' := by
  unfold Runs at h ⊢
  split at h
  · exact hk _ _ h
  · exact h.elim
theorem Runs.of_eq {s : Sem α} {K : α → World → Prop} {a : α} {w' : World} (h : s.run P w = .ok a w') (hk : K a w') : Runs P s w K := by
  unfold Runs; rw [h]; exact hk
theorem Runs.program {K : Program → World → Prop} (h : K P w) : Runs P Go.program w K := h
theorem Runs.new {o : Obj} {K : Nat → World → Prop} (h : K w.heap.size { w with heap := w.heap.push o }) : Runs P (newObj o) w K := h
theorem Runs.shape {r : Nat} {K : Option (TypeId × Nat) → World → Prop} (h : K (w.shape? r) w) : Runs P (Go.shape r) w K := h
theorem Runs.mark {m : Mark} {K : Unit → World → Prop} (h : K () w) : Runs P (Go.mark m) w K := h
theorem Runs.askRoom {n : Nat} {K : Unit → World → Prop} (h : K () w) : Runs P (Go.askRoom n) w K := by
  unfold Go.askRoom; split
  · exact h
  · exact h
theorem Runs.choose {q : Question} {K : Nat → World → Prop} (h0 : q.forced = true → K 0 w) (h : ∀ t d, w.drawn ≤ d → K (q.cut t) { w with drawn := d }) : Runs P (Go.choose q) w K := by
  unfold Runs
  simp only [Go.choose, Sem.run]
  by_cases hf : q.forced = true
  · rw [if_pos hf]; exact h0 hf
  · rw [if_neg hf]; exact h _ _ (Nat.le_succ _)
theorem Runs.load {a : Addr} {m : Mode} {v : Value} {K : Value → World → Prop} (hv : w.cell? a = some v) (h : K v w) : Runs P (Go.load a m) w K :=
  Runs.of_eq (by simp [hv]) h
theorem Runs.getObj {r : Nat} {o : Obj} {K : Obj → World → Prop} (ho : w.heap[r]? = some o) (hc : ∀ c t z, o ≠ .cells c t z) (h : K o w) : Runs P (Go.getObj r) w K := by
  unfold Runs
  simp only [Go.getObj, Sem.run, ho]
  cases o <;> first | exact h | exact absurd rfl (hc _ _ _)
theorem Runs.setObj {r : Nat} {o o' : Obj} {K : Unit → World → Prop} (ho : w.heap[r]? = some o) (hc : ∀ c t z, o ≠ .cells c t z) (h : K () { w with heap := w.heap.setIfInBounds r o' }) :
    Runs P (Go.setObj r o') w K := by
  unfold Runs
  simp only [Go.setObj, Sem.run, ho]
  cases o <;> first | exact h | exact absurd rfl (hc _ _ _)
end

/-! ### Types -/

/-- Of a type: what it is underneath, its size in cells, its bytes, its zero. -/
def tinfo (P : Program) (t : TypeId) : Option (TypeDesc × Nat × Nat × Value) :=
  match P.underlying t, P.info? t with
  | some u, some i => i.zero.map fun z => (u, i.size, i.bytes, z)
  | _, _ => none

def aggDesc : TypeDesc → Bool
  | .struct _ | .array _ _ => true
  | _ => false

section
variable {P : Program} {w : World} {t : TypeId} {u : TypeDesc} {n by_ : Nat} {z : Value}

theorem tinfo_parts (h : tinfo P t = some (u, n, by_, z)) : P.underlying t = some u ∧ ∃ i, P.info? t = some i ∧ i.size = n ∧ i.bytes = by_ ∧ i.zero = some z := by
  unfold tinfo at h
  split at h
  · rename_i u' i hu hi
    rw [Option.map_eq_some_iff] at h
    obtain ⟨z', hz, he⟩ := h
    simp only [Prod.mk.injEq] at he
    obtain ⟨rfl, rfl, rfl, rfl⟩ := he
    exact ⟨hu, i, hi, rfl, rfl, hz⟩
  · cases h

theorem Runs.underlying {K : TypeDesc → World → Prop} (ht : tinfo P t = some (u, n, by_, z)) (h : K u w) : Runs P (Go.underlying t) w K := by
  obtain ⟨hu, _⟩ := tinfo_parts ht
  exact Runs.of_eq (by simp [Go.underlying, hu]) h
theorem Runs.typeInfo {K : TypeInfo → World → Prop} (ht : tinfo P t = some (u, n, by_, z)) (h : ∀ i : TypeInfo, i.size = n → i.bytes = by_ → i.zero = some z → K i w) : Runs P (Go.typeInfo t) w K := by
  obtain ⟨_, i, hi, h1, h2, h3⟩ := tinfo_parts ht
  exact Runs.of_eq (by simp [Go.typeInfo, hi]) (h i h1 h2 h3)
theorem Runs.sizeOf {K : Nat → World → Prop} (ht : tinfo P t = some (u, n, by_, z)) (h : K n w) : Runs P (Go.sizeOf t) w K := by
  unfold Go.sizeOf
  exact .bind (.typeInfo ht fun i h1 _ _ => .pure (h1 ▸ h))
theorem Runs.zeroValue {K : Value → World → Prop} (ht : tinfo P t = some (u, n, by_, z)) (h : K z w) : Runs P (Go.zeroValue t) w K := by
  unfold Go.zeroValue
  refine .bind (.typeInfo ht fun i _ _ h3 => ?_)
  rw [h3]; exact .pure h
theorem Runs.isAgg {K : Bool → World → Prop} (ht : tinfo P t = some (u, n, by_, z)) (h : K (aggDesc u) w) : Runs P (Go.isAgg t) w K := by
  unfold Go.isAgg
  refine .bind (.underlying ht ?_)
  cases u <;> exact .pure h
end

/-! ### The operations that touch no memory -/

section
variable {P : Program} {ρ : Env} {w : World} {K : Value → World → Prop} {dst : Option Tmp} {ty : TypeId} {pos : String} {aft : Array Edge} {g : Option (Nat × Bool)}

theorem OpRuns.ofV {o : Oper} {s : Sem Value} (he : execOp ρ.ev o = (do pure (Next.value (← s)))) (h : Runs P s w K) : OpRuns P ρ o w K := by
  unfold OpRuns
  rw [he, Sem.run_bind]
  unfold Runs at h
  cases hs : s.run P w with
  | ok a w' => rw [hs] at h; exact h
  | halt x w' => rw [hs] at h; exact h.elim
theorem OpRuns.ofU {o : Oper} {s : Sem Unit} (he : execOp ρ.ev o = (do s; pure Next.skip)) (h : Runs P s w fun _ w' => K undef w') : OpRuns P ρ o w K := by
  unfold OpRuns
  rw [he, Sem.run_bind]
  unfold Runs at h
  cases hs : s.run P w with
  | ok a w' => rw [hs] at h; exact h
  | halt x w' => rw [hs] at h; exact h.elim

theorem r_move {x : Operand} (h : K (ρ.ev x) w) : OpRuns P ρ ⟨dst, .move x, ty, pos, aft, g⟩ w K := h
theorem r_assign {x : Operand} (h : K (ρ.ev x) w) : OpRuns P ρ ⟨dst, .assign x, ty, pos, aft, g⟩ w K := h
theorem r_mv {x : Operand} {v : Value} (hx : ρ.ev x = v) (h : K v w) : OpRuns P ρ ⟨dst, .move x, ty, pos, aft, g⟩ w K := r_move (hx ▸ h)
theorem r_as {x : Operand} {v : Value} (hx : ρ.ev x = v) (h : K v w) : OpRuns P ρ ⟨dst, .assign x, ty, pos, aft, g⟩ w K := r_assign (hx ▸ h)
theorem r_pick {c a b : Operand} {t : Bool} {va vb : Value} (hc : ρ.ev c = .bool t) (ha : ρ.ev a = va) (hb : ρ.ev b = vb) (h : K (if t then va else vb) w) : OpRuns P ρ ⟨dst, .pick c a b, ty, pos, aft, g⟩ w K := by
  unfold OpRuns
  have : execOp ρ.ev ⟨dst, .pick c a b, ty, pos, aft, g⟩ = pure (.value (if t then va else vb)) := by simp only [execOp, hc, ha, hb, asBool]; rfl
  rw [this]; exact h
theorem r_pickB {c a b : Operand} {t x y : Bool} (hc : ρ.ev c = .bool t) (ha : ρ.ev a = .bool x) (hb : ρ.ev b = .bool y) (h : K (.bool (if t then x else y)) w) : OpRuns P ρ ⟨dst, .pick c a b, ty, pos, aft, g⟩ w K :=
  r_pick hc ha hb (by cases t <;> exact h)
theorem r_pickT {c a b : Operand} {v : Value} (hc : ρ.ev c = .bool true) (ha : ρ.ev a = v) (h : K v w) : OpRuns P ρ ⟨dst, .pick c a b, ty, pos, aft, g⟩ w K :=
  r_pick hc ha rfl h
theorem r_pickF {c a b : Operand} {v : Value} (hc : ρ.ev c = .bool false) (hb : ρ.ev b = v) (h : K v w) : OpRuns P ρ ⟨dst, .pick c a b, ty, pos, aft, g⟩ w K :=
  r_pick hc rfl hb h
theorem r_extract {x : Operand} {i : Nat} {vs : Array Value} {v : Value} (hx : ρ.ev x = .tuple vs) (hv : vs[i]? = some v) (h : K v w) : OpRuns P ρ ⟨dst, .extract x i, ty, pos, aft, g⟩ w K := by
  refine .ofV (s := Instr.extract (ρ.ev x) i) rfl ?_
  rw [hx]; simp only [Instr.extract, hv]; exact h
theorem r_makeFunc {fn : Fn} {a b : Array Operand} (h : K (.func fn (a.map ρ.ev) (b.map ρ.ev)) w) : OpRuns P ρ ⟨dst, .makeFunc fn a b, ty, pos, aft, g⟩ w K :=
  .ofV (s := Instr.makeFunc fn (a.map ρ.ev) (b.map ρ.ev)) rfl h
theorem r_nilCheckP {x : Operand} {a : Addr} (hx : ρ.ev x = .pointer (some a)) (h : K (.pointer (some a)) w) : OpRuns P ρ ⟨dst, .nilCheck x, ty, pos, aft, g⟩ w K := by
  unfold OpRuns
  have : execOp ρ.ev ⟨dst, .nilCheck x, ty, pos, aft, g⟩ = pure (.value (.pointer (some a))) := by simp only [execOp, hx]
  rw [this]; exact h
theorem r_makeInterface {x : Operand} {t : TypeId} {u : TypeDesc} {n by_ : Nat} {z v : Value} (ht : tinfo P t = some (u, n, by_, z)) (hu : ∀ m, u ≠ .interface m) (hx : ρ.ev x = v) (h : K (.iface t v) w) :
    OpRuns P ρ ⟨dst, .makeInterface t x, ty, pos, aft, g⟩ w K := by
  refine .ofV (s := Instr.makeInterface t (ρ.ev x)) rfl ?_
  rw [hx]; unfold Instr.makeInterface
  refine .bind (.underlying ht ?_)
  cases u <;> first | exact h | exact absurd rfl (hu _)

/-! Integers. -/
theorem eqGuard_int {op : BinOp} {t : TypeId} {x y : Operand} {k k' : IntKind} {a b : Int} {K : Unit → World → Prop} (h : K () w) : Runs P (eqGuard op t x y (.int k a) (.int k' b)) w K := by
  unfold eqGuard
  cases op <;> exact h

theorem r_binInt {op : BinOp} {t : TypeId} {x y : Operand} {yt : TypeId} {k k' : IntKind} {a b : Int} (hx : ρ.ev x = .int k a) (hy : ρ.ev y = .int k' b)
    (h : Runs P (Go.binOp op t (.int k a) (.int k' b)) w K) : OpRuns P ρ ⟨dst, .binOp op t x y yt, ty, pos, aft, g⟩ w K := by
  refine .ofV (s := do eqGuard op t x y (ρ.ev x) (ρ.ev y); Go.binOp op t (ρ.ev x) (ρ.ev y)) rfl ?_
  rw [hx, hy]; exact .bind (eqGuard_int h)

variable {t yt : TypeId} {x y : Operand} {k k' : IntKind} {a b : Int}
theorem r_add (hx : ρ.ev x = .int k a) (hy : ρ.ev y = .int k b) (h : K (.int k (k.wrap (a + b))) w) : OpRuns P ρ ⟨dst, .binOp .add t x y yt, ty, pos, aft, g⟩ w K :=
  r_binInt hx hy (by simp [Go.binOp, Op.intArith]; exact h)
theorem r_sub (hx : ρ.ev x = .int k a) (hy : ρ.ev y = .int k b) (h : K (.int k (k.wrap (a - b))) w) : OpRuns P ρ ⟨dst, .binOp .sub t x y yt, ty, pos, aft, g⟩ w K :=
  r_binInt hx hy (by simp [Go.binOp, Op.intArith]; exact h)
theorem r_mul (hx : ρ.ev x = .int k a) (hy : ρ.ev y = .int k b) (h : K (.int k (k.wrap (a * b))) w) : OpRuns P ρ ⟨dst, .binOp .mul t x y yt, ty, pos, aft, g⟩ w K :=
  r_binInt hx hy (by simp [Go.binOp, Op.intArith]; exact h)
theorem r_quo (hx : ρ.ev x = .int k a) (hy : ρ.ev y = .int k b) (hb : b ≠ 0) (h : K (.int k (k.wrap (a.tdiv b))) w) : OpRuns P ρ ⟨dst, .binOp .quo t x y yt, ty, pos, aft, g⟩ w K :=
  r_binInt hx hy (by simp [Go.binOp, Op.intDiv, hb]; exact h)
theorem r_rem (hx : ρ.ev x = .int k a) (hy : ρ.ev y = .int k b) (hb : b ≠ 0) (h : K (.int k (a.tmod b)) w) : OpRuns P ρ ⟨dst, .binOp .rem t x y yt, ty, pos, aft, g⟩ w K :=
  r_binInt hx hy (by simp [Go.binOp, Op.intDiv, hb]; exact h)
theorem r_eql (hx : ρ.ev x = .int k a) (hy : ρ.ev y = .int k b) (h : K (.bool (a == b)) w) : OpRuns P ρ ⟨dst, .binOp .eql t x y yt, ty, pos, aft, g⟩ w K :=
  r_binInt hx hy (by simp [Go.binOp, Op.intCmp]; exact h)
theorem r_neq (hx : ρ.ev x = .int k a) (hy : ρ.ev y = .int k b) (h : K (.bool (a != b)) w) : OpRuns P ρ ⟨dst, .binOp .neq t x y yt, ty, pos, aft, g⟩ w K :=
  r_binInt hx hy (by simp [Go.binOp, Op.intCmp]; exact h)
theorem r_lss (hx : ρ.ev x = .int k a) (hy : ρ.ev y = .int k b) (h : K (.bool (decide (a < b))) w) : OpRuns P ρ ⟨dst, .binOp .lss t x y yt, ty, pos, aft, g⟩ w K :=
  r_binInt hx hy (by simp [Go.binOp, Op.intCmp]; exact h)
theorem r_leq (hx : ρ.ev x = .int k a) (hy : ρ.ev y = .int k b) (h : K (.bool (decide (a ≤ b))) w) : OpRuns P ρ ⟨dst, .binOp .leq t x y yt, ty, pos, aft, g⟩ w K :=
  r_binInt hx hy (by simp [Go.binOp, Op.intCmp]; exact h)
theorem r_gtr (hx : ρ.ev x = .int k a) (hy : ρ.ev y = .int k b) (h : K (.bool (decide (b < a))) w) : OpRuns P ρ ⟨dst, .binOp .gtr t x y yt, ty, pos, aft, g⟩ w K :=
  r_binInt hx hy (by simp [Go.binOp, Op.intCmp]; exact h)
theorem r_geq (hx : ρ.ev x = .int k a) (hy : ρ.ev y = .int k b) (h : K (.bool (decide (b ≤ a))) w) : OpRuns P ρ ⟨dst, .binOp .geq t x y yt, ty, pos, aft, g⟩ w K :=
  r_binInt hx hy (by simp [Go.binOp, Op.intCmp]; exact h)
theorem r_shl (hx : ρ.ev x = .int k a) (hy : ρ.ev y = .int k' b) (hb : ¬ b < 0) (h : K (.int k (k.wrap (a * 2 ^ (min b.toNat k.bits)))) w) : OpRuns P ρ ⟨dst, .binOp .shl t x y yt, ty, pos, aft, g⟩ w K :=
  r_binInt hx hy (by simp [Go.binOp, Op.shift, hb]; exact h)
theorem r_shr (hx : ρ.ev x = .int k a) (hy : ρ.ev y = .int k' b) (hb : ¬ b < 0) (h : K (.int k (a.fdiv (2 ^ (min b.toNat k.bits)))) w) : OpRuns P ρ ⟨dst, .binOp .shr t x y yt, ty, pos, aft, g⟩ w K :=
  r_binInt hx hy (by simp [Go.binOp, Op.shift, hb]; exact h)
theorem r_and (hx : ρ.ev x = .int k a) (hy : ρ.ev y = .int k b) (h : K (.int k (k.wrap (BitVec.ofInt k.bits a &&& BitVec.ofInt k.bits b).toNat)) w) : OpRuns P ρ ⟨dst, .binOp .and t x y yt, ty, pos, aft, g⟩ w K :=
  r_binInt hx hy (by simp only [Go.binOp, Op.intBits, ne_eq, not_true, if_false]; exact h)
theorem r_or (hx : ρ.ev x = .int k a) (hy : ρ.ev y = .int k b) (h : K (.int k (k.wrap (BitVec.ofInt k.bits a ||| BitVec.ofInt k.bits b).toNat)) w) : OpRuns P ρ ⟨dst, .binOp .or t x y yt, ty, pos, aft, g⟩ w K :=
  r_binInt hx hy (by simp only [Go.binOp, Op.intBits, ne_eq, not_true, if_false]; exact h)
theorem r_xor (hx : ρ.ev x = .int k a) (hy : ρ.ev y = .int k b) (h : K (.int k (k.wrap (BitVec.ofInt k.bits a ^^^ BitVec.ofInt k.bits b).toNat)) w) : OpRuns P ρ ⟨dst, .binOp .xor t x y yt, ty, pos, aft, g⟩ w K :=
  r_binInt hx hy (by simp only [Go.binOp, Op.intBits, ne_eq, not_true, if_false]; exact h)
theorem r_andNot (hx : ρ.ev x = .int k a) (hy : ρ.ev y = .int k b) (h : K (.int k (k.wrap (BitVec.ofInt k.bits a &&& ~~~ BitVec.ofInt k.bits b).toNat)) w) : OpRuns P ρ ⟨dst, .binOp .andNot t x y yt, ty, pos, aft, g⟩ w K :=
  r_binInt hx hy (by simp only [Go.binOp, Op.intBits, ne_eq, not_true, if_false]; exact h)
theorem r_not {x : Operand} {c : Bool} (hx : ρ.ev x = .bool c) (h : K (.bool (!c)) w) : OpRuns P ρ ⟨dst, .unOp .not t x, ty, pos, aft, g⟩ w K := by
  refine .ofV (s := Op.unary .not (ρ.ev x)) rfl ?_
  rw [hx]; exact h
theorem r_neg (hx : ρ.ev x = .int k a) (h : K (.int k (k.wrap (0 - a))) w) : OpRuns P ρ ⟨dst, .unOp .neg t x, ty, pos, aft, g⟩ w K := by
  refine .ofV (s := Op.unary .neg (ρ.ev x)) rfl ?_
  rw [hx]; exact h

/-! Sums that do not wrap. -/
theorem wrap_i64 {n : Int} (h : -9223372036854775808 ≤ n) (h' : n ≤ 9223372036854775807) : IntKind.i64.wrap n = n := by
  have e := IntKind.wrap_i64 n
  rw [e]; omega
theorem wrap_u64 {n : Int} (h : 0 ≤ n) (h' : n ≤ 18446744073709551615) : IntKind.u64.wrap n = n := by
  have e : IntKind.u64.wrap n = n % 18446744073709551616 := rfl
  rw [e]; omega
theorem wrap_u32 {n : Int} (h : 0 ≤ n) (h' : n ≤ 4294967295) : IntKind.u32.wrap n = n := by
  have e : IntKind.u32.wrap n = n % 4294967296 := rfl
  rw [e]; omega
theorem wrap_u16 {n : Int} (h : 0 ≤ n) (h' : n ≤ 65535) : IntKind.u16.wrap n = n := by
  have e : IntKind.u16.wrap n = n % 65536 := rfl
  rw [e]; omega
theorem wrap_u8 {n : Int} (h : 0 ≤ n) (h' : n ≤ 255) : IntKind.u8.wrap n = n := by
  have e : IntKind.u8.wrap n = n % 256 := rfl
  rw [e]; omega
theorem wrap_i32 {n : Int} (h : -2147483648 ≤ n) (h' : n ≤ 2147483647) : IntKind.i32.wrap n = n := by
  have e := IntKind.wrap_i32 n
  rw [e]; omega
theorem wrapu64 (n : Int) : IntKind.u64.wrap n = n % 18446744073709551616 := rfl
theorem wrapu32 (n : Int) : IntKind.u32.wrap n = n % 4294967296 := rfl

theorem r_addI (hx : ρ.ev x = .int .i64 a) (hy : ρ.ev y = .int .i64 b) (h1 : -9223372036854775808 ≤ a + b) (h2 : a + b ≤ 9223372036854775807) (h : K (.int .i64 (a + b)) w) :
    OpRuns P ρ ⟨dst, .binOp .add t x y yt, ty, pos, aft, g⟩ w K := r_add hx hy (by rw [wrap_i64 h1 h2]; exact h)
theorem r_subI (hx : ρ.ev x = .int .i64 a) (hy : ρ.ev y = .int .i64 b) (h1 : -9223372036854775808 ≤ a - b) (h2 : a - b ≤ 9223372036854775807) (h : K (.int .i64 (a - b)) w) :
    OpRuns P ρ ⟨dst, .binOp .sub t x y yt, ty, pos, aft, g⟩ w K := r_sub hx hy (by rw [wrap_i64 h1 h2]; exact h)
theorem r_mulI (hx : ρ.ev x = .int .i64 a) (hy : ρ.ev y = .int .i64 b) (h1 : -9223372036854775808 ≤ a * b) (h2 : a * b ≤ 9223372036854775807) (h : K (.int .i64 (a * b)) w) :
    OpRuns P ρ ⟨dst, .binOp .mul t x y yt, ty, pos, aft, g⟩ w K := r_mul hx hy (by rw [wrap_i64 h1 h2]; exact h)
theorem r_addU (hx : ρ.ev x = .int .u64 a) (hy : ρ.ev y = .int .u64 b) (h1 : 0 ≤ a + b) (h2 : a + b ≤ 18446744073709551615) (h : K (.int .u64 (a + b)) w) :
    OpRuns P ρ ⟨dst, .binOp .add t x y yt, ty, pos, aft, g⟩ w K := r_add hx hy (by rw [wrap_u64 h1 h2]; exact h)
theorem r_mulU (hx : ρ.ev x = .int .u64 a) (hy : ρ.ev y = .int .u64 b) (h1 : 0 ≤ a * b) (h2 : a * b ≤ 18446744073709551615) (h : K (.int .u64 (a * b)) w) :
    OpRuns P ρ ⟨dst, .binOp .mul t x y yt, ty, pos, aft, g⟩ w K := r_mul hx hy (by rw [wrap_u64 h1 h2]; exact h)
theorem r_quoI (hx : ρ.ev x = .int .i64 a) (hy : ρ.ev y = .int .i64 b) (h0 : 0 ≤ a) (h1 : 0 < b) (h2 : a ≤ 9223372036854775807) (h : K (.int .i64 (a / b)) w) :
    OpRuns P ρ ⟨dst, .binOp .quo t x y yt, ty, pos, aft, g⟩ w K := by
  have hd : a.tdiv b = a / b := Int.tdiv_eq_ediv_of_nonneg h0
  have h3 : a / b ≤ a := Int.ediv_le_self _ h0
  have h4 : 0 ≤ a / b := Int.ediv_nonneg h0 (Int.le_of_lt h1)
  exact r_quo hx hy (by omega) (by rw [hd, wrap_i64 (by omega) (by omega)]; exact h)
theorem r_quoU (hx : ρ.ev x = .int .u64 a) (hy : ρ.ev y = .int .u64 b) (h0 : 0 ≤ a) (h1 : 0 < b) (h2 : a ≤ 18446744073709551615) (h : K (.int .u64 (a / b)) w) :
    OpRuns P ρ ⟨dst, .binOp .quo t x y yt, ty, pos, aft, g⟩ w K := by
  have hd : a.tdiv b = a / b := Int.tdiv_eq_ediv_of_nonneg h0
  have h3 : a / b ≤ a := Int.ediv_le_self _ h0
  have h4 : 0 ≤ a / b := Int.ediv_nonneg h0 (Int.le_of_lt h1)
  exact r_quo hx hy (by omega) (by rw [hd, wrap_u64 (by omega) (by omega)]; exact h)
theorem r_remP (hx : ρ.ev x = .int k a) (hy : ρ.ev y = .int k b) (h0 : 0 ≤ a) (h1 : 0 < b) (h : K (.int k (a % b)) w) :
    OpRuns P ρ ⟨dst, .binOp .rem t x y yt, ty, pos, aft, g⟩ w K :=
  r_rem hx hy (by omega) (by rw [Int.tmod_eq_emod_of_nonneg h0]; exact h)
theorem r_shrU {c : Nat} (hx : ρ.ev x = .int .u64 a) (hy : ρ.ev y = .int k' c) (hc : c ≤ 64) (h : K (.int .u64 (a / 2 ^ c)) w) :
    OpRuns P ρ ⟨dst, .binOp .shr t x y yt, ty, pos, aft, g⟩ w K :=
  r_shr hx hy (by omega) (by
    have e : min (c : Int).toNat IntKind.u64.bits = c := by simp [IntKind.bits]; omega
    rw [e, Int.fdiv_eq_ediv_of_nonneg _ (Int.pow_nonneg (by omega))]; exact h)

/-! Conversions. -/
theorem r_convInt {s d : TypeId} {us : TypeDesc} {n1 b1 n2 b2 : Nat} {z1 z2 : Value} {k' : IntKind} (hs : tinfo P s = some (us, n1, b1, z1)) (hd : tinfo P d = some (.int k', n2, b2, z2))
    (hx : ρ.ev x = .int k a) (h : K (.int k' (k'.wrap a)) w) : OpRuns P ρ ⟨dst, .convert s d x, ty, pos, aft, g⟩ w K := by
  refine .ofV (s := Go.convert s d (ρ.ev x)) rfl ?_
  rw [hx]; unfold Go.convert
  exact .bind (.underlying hs (.bind (.underlying hd h)))
theorem r_convStr {s d : TypeId} {us : TypeDesc} {n1 b1 n2 b2 : Nat} {z1 z2 : Value} {bs : ByteArray} (hs : tinfo P s = some (us, n1, b1, z1)) (hd : tinfo P d = some (.string, n2, b2, z2))
    (hx : ρ.ev x = .string bs) (h : K (.string bs) w) : OpRuns P ρ ⟨dst, .convert s d x, ty, pos, aft, g⟩ w K := by
  refine .ofV (s := Go.convert s d (ρ.ev x)) rfl ?_
  rw [hx]; unfold Go.convert
  refine .bind (.underlying hs (.bind (.underlying hd ?_)))
  cases us <;> exact h

/-! Aggregates. -/
theorem r_field {s : TypeId} {fs : Array Field} {n b1 : Nat} {z v : Value} {i : Nat} {f : Field} {cs : Array Value} {uf : TypeDesc} {nf bf : Nat} {zf : Value} (hs : tinfo P s = some (.struct fs, n, b1, z)) (hf : fs[i]? = some f)
    (ht : tinfo P f.type = some (uf, nf, bf, zf)) (hx : ρ.ev x = .agg cs) (hv : (if aggDesc uf then some (.agg (cs.extract f.offset (f.offset + nf))) else cs[f.offset]?) = some v) (h : K v w) :
    OpRuns P ρ ⟨dst, .field s x i, ty, pos, aft, g⟩ w K := by
  refine .ofV (s := Instr.field s (ρ.ev x) i) rfl ?_
  rw [hx]; unfold Instr.field
  refine .bind (.underlying hs ?_)
  simp only [hf]
  refine .bind (.pure ?_)
  unfold part
  refine .bind (.isAgg ht ?_)
  cases hu : aggDesc uf with
  | true => rw [hu] at hv; simp at hv; subst hv; exact .bind (.sizeOf ht (.pure h))
  | false => rw [hu] at hv; simp at hv; simp only [hv]; exact .pure h

theorem r_build {s : TypeId} {u : TypeDesc} {n b1 : Nat} {z v : Value} {parts : Array (Nat × Operand)} (_hs : tinfo P s = some (u, n, b1, z))
    (hr : Runs P (Instr.build s (parts.map fun (i, x) => (i, ρ.ev x))) w fun v' w' => v' = v ∧ w' = w) (h : K v w) : OpRuns P ρ ⟨dst, .build s parts, ty, pos, aft, g⟩ w K :=
  .ofV (s := Instr.build s (parts.map fun (i, x) => (i, ρ.ev x))) rfl (hr.mono fun _ _ ⟨h1, h2⟩ => by subst h1; subst h2; exact h)

end
end Go.Sx
namespace Go.Sx

/-- Of the chunks L those of L', in its order. -/
inductive Sel {α : Type} : List α → List α → Prop
  | nil {L : List α} : Sel L []
  | cons {L L' : List α} {i : Nat} {c : α} : At L i c → Sel (L.eraseIdx i) L' → Sel L (c :: L')

theorem At.get {α : Type} {L : List α} {i : Nat} {c : α} (h : At L i c) : L[i]? = some c := by
  induction h with
  | head => rfl
  | tail _ ih => simpa using ih

theorem At.set {α : Type} {L : List α} {i : Nat} {c : α} (h : At L i c) (q : α) : At (L.set i q) i q := by
  induction h with
  | head => exact .head
  | tail _ ih => exact .tail ih

theorem Hp.sel {E : Ent} {M : RO} {w : World} {L L' : List HProp} (h : Hp E M L w) (hs : Sel L L') : Hp E M L' w := by
  obtain ⟨F, hst, h0⟩ := h
  have key : ∀ {L L' : List HProp}, Sel L L' → ∀ {F : Own}, Star L F → ∃ F₁ R, Star L' F₁ ∧ F.Perm (F₁ ++ R) := by
    intro L L' hs
    induction hs with
    | nil => intro F _; exact ⟨[], F, rfl, .refl _⟩
    | cons hat _ ih =>
      intro F hF
      obtain ⟨A, R, hc, hp, _, F', hF', hFp⟩ := Star.focus hat hF
      obtain ⟨F₁, R₁, h1, h2⟩ := ih hF'
      refine ⟨A ++ F₁, R₁, ⟨A, F₁, hc, h1, rfl⟩, hp.trans ?_⟩
      rw [List.append_assoc]
      exact (hFp.symm.trans h2).append_left A
  obtain ⟨F₁, R, h1, h2⟩ := key hs hst
  exact ⟨F₁, h1, (h0.perm h2).sub (List.sublist_append_left F₁ R)⟩

theorem addr_add (b o n : Nat) : Addr.add ⟨b, o, none⟩ n = ⟨b, o + n, none⟩ := by
  unfold Addr.add; split
  · subst_vars; rfl
  · rfl

theorem cell_of {w : World} {b : Nat} {c : Array Value} {e : TypeId} {z : Nat × Nat} (h : w.heap[b]? = some (.cells c e z)) (o : Nat) : w.cell? ⟨b, o, none⟩ = c[o]? := by
  simp [World.cell?, h]

/-- What a variable of a type reads as at 'off' in a row of cells. -/
def rd (u : TypeDesc) (n : Nat) (c : Array Value) (off : Nat) : Option Value :=
  if aggDesc u then (if off + n ≤ c.size then some (.agg (c.extract off (off + n))) else none) else c[off]?

section
variable {P : Program} {w : World}

theorem run_loadCellsFrom {b : Nat} {c : Array Value} {e : TypeId} {z : Nat × Nat} (h : w.heap[b]? = some (.cells c e z)) (o : Nat) :
    ∀ (n i : Nat) (acc : Array Value), o + i + n ≤ c.size → (loadCellsFrom ⟨b, o, none⟩ i n acc).run P w = .ok (acc ++ c.extract (o + i) (o + i + n)) w := by
  intro n
  induction n with
  | zero =>
    intro i acc _
    have : c.extract (o + i) (o + i + 0) = #[] := by apply Array.ext <;> simp; omega
    simp only [loadCellsFrom, this]; simp
  | succ n ih =>
    intro i acc hi
    have hlt : o + i < c.size := by omega
    simp only [loadCellsFrom, addr_add, Sem.run_bind, run_load, cell_of h, Array.getElem?_eq_getElem hlt, Result.andThen_ok]
    rw [ih (i + 1) _ (by omega)]
    congr 1
    have : c.extract (o + i) (o + i + (n + 1)) = #[c[o + i]] ++ c.extract (o + (i + 1)) (o + (i + 1) + n) := by
      apply Array.ext
      · simp; omega
      · intro j h1 h2
        simp only [Array.getElem_append, Array.getElem_extract]
        by_cases hj : j = 0
        · subst hj; simp
        · have : ¬ j < (#[c[o + i]] : Array Value).size := by simp; omega
          rw [dif_neg this]
          congr 1
          simp; omega
    rw [this, Array.push_eq_append, Array.append_assoc]

theorem run_loadCells {b : Nat} {c : Array Value} {e : TypeId} {z : Nat × Nat} (h : w.heap[b]? = some (.cells c e z)) {o n : Nat} (hn : o + n ≤ c.size) :
    (loadCells ⟨b, o, none⟩ n).run P w = .ok (c.extract o (o + n)) w := by
  unfold loadCells
  rw [run_loadCellsFrom h o n 0 #[] (by omega)]
  simp

theorem Runs.loadVar {t : TypeId} {u : TypeDesc} {n by_ : Nat} {zv v : Value} {b o : Nat} {c : Array Value} {e : TypeId} {z : Nat × Nat} {K : Value → World → Prop}
    (ht : tinfo P t = some (u, n, by_, zv)) (hb : w.heap[b]? = some (.cells c e z)) (hv : rd u n c o = some v) (h : K v w) : Runs P (Go.loadVar t ⟨b, o, none⟩) w K := by
  unfold Go.loadVar
  refine .bind (.isAgg ht ?_)
  unfold rd at hv
  cases hu : aggDesc u with
  | false =>
    rw [hu] at hv
    simp at hv
    exact .load (by rw [cell_of hb]; exact hv) h
  | true =>
    rw [hu] at hv
    simp only [if_true] at hv
    split at hv
    · rename_i hn
      simp only [Option.some.injEq] at hv
      subst hv
      exact .bind (.sizeOf ht (.bind (.of_eq (run_loadCells hb hn) (.pure h))))
    · cases hv

end

section
variable {P : Program} {ρ : Env} {w : World} {K : Value → World → Prop} {dst : Option Tmp} {ty : TypeId} {pos : String} {aft : Array Edge} {g : Option (Nat × Bool)}
variable {E : Ent} {M : RO} {L : List HProp}
variable {t : TypeId} {u : TypeDesc} {n by_ : Nat} {zv v : Value} {x y : Operand} {b o i : Nat} {c : Array Value} {e : TypeId} {z : Nat × Nat}

theorem r_load (ht : tinfo P t = some (u, n, by_, zv)) (hx : ρ.ev x = .pointer (some ⟨b, o, none⟩)) (hb : w.heap[b]? = some (.cells c e z)) (hv : rd u n c o = some v) (h : K v w) :
    OpRuns P ρ ⟨dst, .load t x, ty, pos, aft, g⟩ w K := by
  refine .ofV (s := Instr.loadAt t (ρ.ev x)) rfl ?_
  rw [hx]; unfold Instr.loadAt
  exact .bind (.pure (.loadVar ht hb hv h))

/-- The variable is a block of its own. -/
theorem r_loadW (ht : tinfo P t = some (u, n, by_, zv)) (hx : ρ.ev x = .pointer (some ⟨b, 0, none⟩)) (hb : w.heap[b]? = some (.cells c e z)) (hu : aggDesc u = true) (hn : c.size = n) (h : K (.agg c) w) :
    OpRuns P ρ ⟨dst, .load t x, ty, pos, aft, g⟩ w K :=
  r_load ht hx hb (v := .agg c) (by
    unfold rd; rw [hu]; simp only [if_true]; rw [if_pos (by omega)]; congr 2
    apply Array.ext <;> simp [hn]) h

/-! Addresses. -/
def foff (P : Program) (s : TypeId) (i : Nat) : Option Nat :=
  match P.underlying s with
  | some (.struct fs) => match fs[i]? with
    | some f => match P.info? f.type with
      | some j => if j.size = 0 then none else some f.offset
      | none => none
    | none => none
  | _ => none

theorem r_fieldAddr {s : TypeId} {k : Nat} (hf : foff P s i = some k) (hx : ρ.ev x = .pointer (some ⟨b, o, none⟩)) (h : K (.pointer (some ⟨b, o + k, none⟩)) w) :
    OpRuns P ρ ⟨dst, .fieldAddr s x i, ty, pos, aft, g⟩ w K := by
  refine .ofV (s := Instr.fieldAt s (ρ.ev x) i) rfl ?_
  rw [hx]; unfold Instr.fieldAt
  unfold foff at hf
  split at hf
  · rename_i fs hu
    refine .bind (.of_eq (a := .struct fs) (w' := w) (by simp [Go.underlying, hu]) ?_)
    split at hf
    · rename_i f hff
      simp only [hff]
      split at hf
      · rename_i j hj
        split at hf
        · cases hf
        · rename_i hsz
          simp only [Option.some.injEq] at hf
          refine .bind (.pure (.bind ?_))
          unfold fieldPlace
          refine .bind (.of_eq (a := j.size) (w' := w) (by simp [Go.sizeOf, Go.typeInfo, hj]) ?_)
          rw [if_neg hsz, addr_add, hf]
          exact .pure (.pure h)
      · cases hf
    · cases hf
  · cases hf

theorem r_fieldAddr0 {s : TypeId} {k : Nat} (hf : foff P s i = some k) (hx : ρ.ev x = .pointer (some ⟨b, 0, none⟩)) (h : K (.pointer (some ⟨b, k, none⟩)) w) :
    OpRuns P ρ ⟨dst, .fieldAddr s x i, ty, pos, aft, g⟩ w K :=
  r_fieldAddr hf hx (by rw [Nat.zero_add]; exact h)

theorem r_indexAddr {el : TypeId} {ue : TypeDesc} {ne be : Nat} {ze : Value} {ix : Operand} {k : IntKind} {j : Int} {len cap : Nat} (ht : tinfo P t = some (.slice el, n, by_, zv)) (he : tinfo P el = some (ue, ne, be, ze))
    (hx : ρ.ev x = .slice (some ⟨b, o, none⟩) len cap) (hi : ρ.ev ix = .int k j) (h0 : 0 ≤ j) (h1 : j < len) (h : K (.pointer (some ⟨b, o + j.toNat * ne, none⟩)) w) :
    OpRuns P ρ ⟨dst, .indexAddr t x ix, ty, pos, aft, g⟩ w K := by
  refine .ofV (s := Instr.indexAt t (ρ.ev x) (ρ.ev ix)) rfl ?_
  rw [hx, hi]; unfold Instr.indexAt
  refine Runs.bind (Runs.pure ?_)
  refine Runs.bind (Runs.underlying ht ?_)
  refine Runs.bind (Runs.pure ?_)
  refine Runs.bind (Runs.underlying ht ?_)
  simp only [h0, h1, and_self, if_true]
  refine Runs.bind (Runs.sizeOf he ?_)
  rw [addr_add]; exact Runs.pure h

/-- The index is a natural number's. -/
theorem r_indexAddrN {el : TypeId} {ue : TypeDesc} {ne be : Nat} {ze : Value} {ix : Operand} {k : IntKind} {j : Nat} {len cap : Nat} (ht : tinfo P t = some (.slice el, n, by_, zv)) (he : tinfo P el = some (ue, ne, be, ze))
    (hx : ρ.ev x = .slice (some ⟨b, o, none⟩) len cap) (hi : ρ.ev ix = .int k (j : Int)) (h1 : j < len) (h : K (.pointer (some ⟨b, o + j * ne, none⟩)) w) :
    OpRuns P ρ ⟨dst, .indexAddr t x ix, ty, pos, aft, g⟩ w K :=
  r_indexAddr ht he hx hi (by omega) (by omega) (by rw [Int.toNat_natCast]; exact h)

/-- An array variable's element. -/
theorem r_indexAddrA {el : TypeId} {ue : TypeDesc} {ne be len : Nat} {ze : Value} {ix : Operand} {k : IntKind} {j : Nat} (ht : tinfo P t = some (.array len el, n, by_, zv)) (he : tinfo P el = some (ue, ne, be, ze))
    (hx : ρ.ev x = .pointer (some ⟨b, o, none⟩)) (hi : ρ.ev ix = .int k (j : Int)) (h1 : j < len) (h : K (.pointer (some ⟨b, o + j * ne, none⟩)) w) :
    OpRuns P ρ ⟨dst, .indexAddr t x ix, ty, pos, aft, g⟩ w K := by
  refine .ofV (s := Instr.indexAt t (ρ.ev x) (ρ.ev ix)) rfl ?_
  rw [hx, hi]; unfold Instr.indexAt
  refine Runs.bind (Runs.pure ?_)
  refine Runs.bind (Runs.underlying ht ?_)
  refine Runs.bind (Runs.pure ?_)
  refine Runs.bind (Runs.pure ?_)
  refine Runs.bind (Runs.underlying ht ?_)
  have h2 : (0 : Int) ≤ (j : Int) := by omega
  have h3 : (j : Int) < (len : Int) := by omega
  simp only [h2, h3, and_self, if_true]
  refine .bind (.sizeOf he ?_)
  rw [addr_add, Int.toNat_natCast]; exact .pure h

/-! New variables. -/
theorem Runs.newRow {e : TypeId} {c : Array Value} {K : Addr → World → Prop} (H : Hp E M L w)
    (h : ∀ b w', E.w.heap.size ≤ b → Hp E M (pt b (.cells c e (0, 0)) :: L) w' → K ⟨b, 0, none⟩ w') : Runs P (Go.newRow e c) w K := by
  unfold Go.newRow
  exact .bind (.new (.pure (h _ _ H.ent_size (H.alloc _))))

theorem r_alloc (ht : tinfo P t = some (u, n, by_, zv)) (H : Hp E M L w) (h : ∀ b w', E.w.heap.size ≤ b → Hp E M (pt b (.cells zv.cells t (0, 0)) :: L) w' → K (.pointer (some ⟨b, 0, none⟩)) w') :
    OpRuns P ρ ⟨dst, .alloc t, ty, pos, aft, g⟩ w K := by
  refine .ofV (s := Instr.alloc t true (.tuple #[])) rfl ?_
  unfold Instr.alloc
  exact .bind (.zeroValue ht (.bind (.newRow H fun b w' hb hH => .pure (h b w' hb hH))))

theorem r_box (hx : ρ.ev x = v) (H : Hp E M L w) (h : ∀ b w', E.w.heap.size ≤ b → Hp E M (pt b (.cells v.cells t (0, 0)) :: L) w' → K (.pointer (some ⟨b, 0, none⟩)) w') :
    OpRuns P ρ ⟨dst, .box t x, ty, pos, aft, g⟩ w K := by
  refine .ofV (s := Instr.box t (ρ.ev x)) rfl ?_
  rw [hx]; unfold Instr.box
  exact .bind (.newRow H fun b w' hb hH => .pure (h b w' hb hH))

/-! Stores. -/
def oneCell : Value → Bool
  | .agg _ | .tuple _ => false
  | _ => true

/-- A row of cells with 'vs' from place 'off' on. -/
def splice (c : Array Value) (off : Nat) : List Value → Array Value
  | [] => c
  | v :: vs => splice (c.setIfInBounds off v) (off + 1) vs

theorem splice_size (vs : List Value) : ∀ (c : Array Value) (off : Nat), (splice c off vs).size = c.size := by
  induction vs with
  | nil => intro c off; rfl
  | cons v vs ih => intro c off; simp [splice, ih]

theorem splice_get (vs : List Value) : ∀ (c : Array Value) (off : Nat), off + vs.length ≤ c.size → ∀ j, (splice c off vs)[j]? = if off ≤ j ∧ j < off + vs.length then vs[j - off]? else c[j]? := by
  induction vs with
  | nil => intro c off _ j; simp [splice]; intro h1 h2; omega
  | cons v vs ih =>
    intro c off hoff j
    rw [List.length_cons] at hoff ⊢
    rw [splice, ih _ _ (by simp; omega)]
    by_cases hj : j = off
    · subst hj
      rw [if_neg (by omega), if_pos (by omega)]
      have : j < c.size := by omega
      simp [this]
    · by_cases h1 : off + 1 ≤ j ∧ j < off + 1 + vs.length
      · rw [if_pos h1, if_pos (by omega)]
        obtain ⟨m, rfl⟩ : ∃ m, j = off + 1 + m := ⟨j - off - 1, by omega⟩
        rw [show off + 1 + m - (off + 1) = m by omega, show off + 1 + m - off = m + 1 by omega, List.getElem?_cons_succ]
      · rw [if_neg h1, if_neg (by omega)]
        rw [Array.getElem?_setIfInBounds, if_neg (by omega)]

theorem splice_whole (vs : List Value) (c : Array Value) (h : c.size = vs.length) : splice c 0 vs = vs.toArray := by
  apply Array.ext_getElem?
  intro j
  rw [splice_get vs c 0 (by omega) j]
  by_cases hj : j < vs.length
  · rw [if_pos (by omega)]; simp
  · rw [if_neg (by omega), Array.getElem?_eq_none (by omega), Array.getElem?_eq_none (by simp; omega)]

theorem Runs.storeCells {K : Unit → World → Prop} : ∀ (vs : List Value) (j : Nat) (c : Array Value) (w : World) (L : List HProp), (∀ v ∈ vs, oneCell v = true) → o + j + vs.length ≤ c.size →
    Hp E M L w → At L i (pt b (.cells c e (0, 0))) → (∀ w', Hp E M (L.set i (pt b (.cells (splice c (o + j) vs) e (0, 0)))) w' → K () w') → Runs P (Go.storeCells ⟨b, o, none⟩ vs j) w K := by
  intro vs
  induction vs with
  | nil =>
    intro j c w L _ _ H hi h
    have : L.set i (pt b (.cells (splice c (o + j) []) e (0, 0))) = L := by
      apply List.ext_getElem?
      intro m
      have := hi.get
      rw [List.getElem?_set]
      split
      · rename_i he; subst he
        split
        · rw [this]; rfl
        · rename_i hlt; rw [List.getElem?_eq_none (by omega)] at this; cases this
      · rfl
    exact .pure (h w (by rw [this]; exact H))
  | cons v vs ih =>
    intro j c w L hone hsz H hi h
    simp only [List.length_cons] at hsz
    have hheap := H.own hi
    have h1 : oneCell v = true := hone v (by simp)
    have hlt : o + j < c.size := by omega
    have hcell : w.cell? ⟨b, o + j, none⟩ = some c[o + j] := by rw [cell_of hheap, Array.getElem?_eq_getElem hlt]
    have hfz : w.frozen? ⟨b, o + j, none⟩ = false := by simp [World.frozen?, hheap]
    have hrun : (Go.store (Addr.add ⟨b, o, none⟩ j) v .plain).run P w = .ok () (w.setCell ⟨b, o + j, none⟩ v) := by
      rw [addr_add]
      cases v <;> first | (simp [oneCell] at h1; done) | simp [Go.store, Sem.run, hcell, hfz]
    refine .bind (.of_eq hrun ?_)
    have H' : Hp E M (L.set i (pt b (.cells (c.setIfInBounds (o + j) v) e (0, 0)))) (w.setCell ⟨b, o + j, none⟩ v) := by
      refine H.turn hi rfl rfl rfl rfl (by simp [World.setCell]) ?_ ?_
      · simp [World.setCell, Array.getElem?_modify, hheap]
      · intro k hk
        simp only [World.setCell, Array.getElem?_modify]
        rw [if_neg (Ne.symm hk)]
    have hi' : At (L.set i (pt b (.cells (c.setIfInBounds (o + j) v) e (0, 0)))) i (pt b (.cells (c.setIfInBounds (o + j) v) e (0, 0))) := by
      exact hi.set _
    refine ih (j + 1) _ _ _ (fun v' hv' => hone v' (List.mem_cons_of_mem _ hv')) (by simp; omega) H' hi' fun w' hw' => h w' ?_
    rw [List.set_set] at hw'
    exact hw'

theorem Runs.storeVar {K : Unit → World → Prop} (ht : tinfo P t = some (u, n, by_, zv)) (H : Hp E M L w) (hi : At L i (pt b (.cells c e (0, 0)))) (hn : v.cells.size = n) (hone : v.cells.toList.all oneCell = true)
    (hsz : o + n ≤ c.size) (h : ∀ w', Hp E M (L.set i (pt b (.cells (splice c o v.cells.toList) e (0, 0)))) w' → K () w') : Runs P (Go.storeVar t ⟨b, o, none⟩ v) w K := by
  unfold Go.storeVar
  refine .bind (.sizeOf ht ?_)
  rw [if_neg (by simpa using hn)]
  exact .bind (.pure (.storeCells v.cells.toList 0 c w L (fun x hx => by rw [List.all_eq_true] at hone; exact hone x hx) (by simp; omega) H hi fun w' hw' => h w' hw'))

theorem r_store (ht : tinfo P t = some (u, n, by_, zv)) (hx : ρ.ev x = .pointer (some ⟨b, o, none⟩)) (hy : ρ.ev y = v) (H : Hp E M L w) (hi : At L i (pt b (.cells c e (0, 0)))) (hn : v.cells.size = n)
    (hone : v.cells.toList.all oneCell = true) (hsz : o + n ≤ c.size) (h : ∀ w', Hp E M (L.set i (pt b (.cells (splice c o v.cells.toList) e (0, 0)))) w' → K undef w') :
    OpRuns P ρ ⟨dst, .store t x y, ty, pos, aft, g⟩ w K := by
  refine .ofU (s := Instr.storeAt t (ρ.ev x) (ρ.ev y)) rfl ?_
  rw [hx, hy]; unfold Instr.storeAt
  exact .bind (.pure (.storeVar ht H hi hn hone hsz h))

/-- The variable is a block of its own. -/
theorem r_storeW (ht : tinfo P t = some (u, n, by_, zv)) (hx : ρ.ev x = .pointer (some ⟨b, 0, none⟩)) (hy : ρ.ev y = v) (H : Hp E M L w) (hi : At L i (pt b (.cells c e (0, 0)))) (hn : v.cells.size = n)
    (hone : v.cells.toList.all oneCell = true) (hsz : c.size = n) (h : ∀ w', Hp E M (L.set i (pt b (.cells v.cells e (0, 0)))) w' → K undef w') :
    OpRuns P ρ ⟨dst, .store t x y, ty, pos, aft, g⟩ w K :=
  r_store ht hx hy H hi hn hone (by omega) fun w' hw' => h w' (by
    rw [splice_whole _ _ (by simp; omega)] at hw'; simpa using hw')

/-- One cell. -/
theorem r_store1 (ht : tinfo P t = some (u, 1, by_, zv)) (hx : ρ.ev x = .pointer (some ⟨b, o, none⟩)) (hy : ρ.ev y = v) (H : Hp E M L w) (hi : At L i (pt b (.cells c e (0, 0))))
    (hone : oneCell v = true) (hsz : o < c.size) (h : ∀ w', Hp E M (L.set i (pt b (.cells (c.setIfInBounds o v) e (0, 0)))) w' → K undef w') :
    OpRuns P ρ ⟨dst, .store t x y, ty, pos, aft, g⟩ w K := by
  have hc : v.cells = #[v] := by cases v <;> first | rfl | (simp [oneCell] at hone)
  refine r_store ht hx hy H hi (by rw [hc]; rfl) (by rw [hc]; simp [hone]) (by omega) fun w' hw' => h w' ?_
  rw [hc] at hw'; exact hw'

/-! Rows. -/
noncomputable def evParts (ρ : Env) (parts : Array (Nat × Operand)) : Array (Nat × Value) := parts.map fun p => (p.1, ρ.ev p.2)
theorem exec_buildSlice {len : Nat} {parts : Array (Nat × Operand)} : execOp ρ.ev ⟨dst, .buildSlice t len parts, ty, pos, aft, g⟩ = (do pure (Next.value (← Instr.buildSlice t len (evParts ρ parts)))) := by
  simp only [execOp]
  have : (fun (x : Nat × Operand) => match x with | (i, x) => (i, ρ.ev x)) = fun p => (p.1, ρ.ev p.2) := by funext ⟨i, x⟩; rfl
  rw [this]; rfl
theorem exec_build {parts : Array (Nat × Operand)} : execOp ρ.ev ⟨dst, .build t parts, ty, pos, aft, g⟩ = (do pure (Next.value (← Instr.build t (evParts ρ parts)))) := by
  simp only [execOp]
  have : (fun (x : Nat × Operand) => match x with | (i, x) => (i, ρ.ev x)) = fun p => (p.1, ρ.ev p.2) := by funext ⟨i, x⟩; rfl
  rw [this]; rfl
theorem r_buildSlice {el : TypeId} {ue : TypeDesc} {ne be len : Nat} {ze : Value} {parts : Array (Nat × Operand)} {cells : Array Value} (ht : tinfo P t = some (.slice el, n, by_, zv)) (he : tinfo P el = some (ue, ne, be, ze))
    (hlen : len * ne ≤ 2 ^ 24)
    (hf : Instr.fill (fun i => some (i * ne, ne)) ((Array.range (len * ne)).map ((if len * ne = 0 then #[] else ze.cells)[· % (if len * ne = 0 then #[] else ze.cells).size]!)) (evParts ρ parts).toList = some cells)
    (H : Hp E M L w) (h : ∀ b w', E.w.heap.size ≤ b → Hp E M (pt b (.cells cells el (0, 0)) :: L) w' → K (.slice (some ⟨b, 0, none⟩) len len) w') :
    OpRuns P ρ ⟨dst, .buildSlice t len parts, ty, pos, aft, g⟩ w K := by
  refine .ofV exec_buildSlice ?_
  unfold Instr.buildSlice
  refine Runs.bind (Runs.underlying ht ?_)
  refine Runs.bind (Runs.sizeOf he ?_)
  rw [if_neg (by omega)]
  by_cases hz : len * ne = 0
  · rw [if_pos hz]
    simp only [if_pos hz] at hf
    refine Runs.bind (Runs.pure ?_)
    simp only [hf]
    exact Runs.bind (Runs.newRow H fun b w' hb hH => Runs.pure (h b w' hb hH))
  · rw [if_neg hz]
    simp only [if_neg hz] at hf
    refine Runs.bind (Runs.zeroValue he ?_)
    refine Runs.bind (Runs.pure ?_)
    simp only [hf]
    exact Runs.bind (Runs.newRow H fun b w' hb hH => Runs.pure (h b w' hb hH))

theorem r_makeSlice {el : TypeId} {ue : TypeDesc} {ne be : Nat} {ze : Value} {k k' : IntKind} {l cp : Nat} (ht : tinfo P t = some (.slice el, n, by_, zv)) (he : tinfo P el = some (ue, ne, be, ze))
    (hx : ρ.ev x = .int k (l : Int)) (hy : ρ.ev y = .int k' (cp : Int)) (hl : l ≤ cp) (hcp : (be : Int) * cp ≤ 2 ^ 48) (hcp' : (cp : Int) ≤ 9223372036854775807)
    (H : Hp E M L w) (h : ∀ b w', E.w.heap.size ≤ b → Hp E M (pt b (.cells ((Array.range (cp * ne)).map ((if cp * ne = 0 then #[] else ze.cells)[· % (if cp * ne = 0 then #[] else ze.cells).size]!)) el (0, 0)) :: L) w' → K (.slice (some ⟨b, 0, none⟩) l cp) w') :
    OpRuns P ρ ⟨dst, .makeSlice t x y, ty, pos, aft, g⟩ w K := by
  refine .ofV (s := Instr.makeSlice t (ρ.ev x) (ρ.ev y)) rfl ?_
  rw [hx, hy]; unfold Instr.makeSlice
  refine Runs.bind (Runs.underlying ht ?_)
  refine Runs.bind (Runs.bind (Runs.pure (Runs.pure ?_)))
  refine Runs.bind (Runs.bind (Runs.pure (Runs.pure ?_)))
  refine Runs.bind (Runs.typeInfo he fun inf h1 h2 h3 => ?_)
  simp only [wrap_i64 (show (-9223372036854775808 : Int) ≤ (l : Int) by omega) (by omega), wrap_i64 (show (-9223372036854775808 : Int) ≤ (cp : Int) by omega) hcp', h2]
  have hc : (decide ((cp : Int) < 0) || decide ((be : Int) * (cp : Int) > 2 ^ 48) || decide ((l : Int) < 0) || decide ((l : Int) > (cp : Int))) = false := by
    simp only [Bool.or_eq_false_iff, decide_eq_false_iff_not]
    refine ⟨⟨⟨by omega, by omega⟩, by omega⟩, by omega⟩
  rw [if_neg (by rw [hc]; simp)]
  refine Runs.bind (Runs.askRoom ?_)
  refine Runs.bind (Runs.sizeOf he ?_)
  simp only [Int.toNat_natCast]
  by_cases hz : cp * ne = 0
  · rw [if_pos hz]
    simp only [if_pos hz] at h
    refine Runs.bind (Runs.pure ?_)
    exact Runs.bind (Runs.newRow H fun b w' hb hH => Runs.pure (h b w' hb hH))
  · rw [if_neg hz]
    simp only [if_neg hz] at h
    refine Runs.bind (Runs.zeroValue he ?_)
    refine Runs.bind (Runs.pure ?_)
    exact Runs.bind (Runs.newRow H fun b w' hb hH => Runs.pure (h b w' hb hH))

/-! Lengths. -/
theorem OpRuns.builtin1 {xo : Operand} {bi : Builtin} {ats : Array TypeId} {s : Sem Value} (he : builtin bi ats ty #[match xo with | .const _ => true | _ => false] #[ρ.ev xo] = (do pure (Next.value (← s)))) (h : Runs P s w K) :
    OpRuns P ρ ⟨dst, .call { callee := .builtin bi, args := #[xo], argTypes := ats }, ty, pos, aft, g⟩ w K := by
  refine .ofV (s := s) ?_ h
  rw [← he]
  show builtin bi ats ty (#[xo].map fun | .const _ => true | _ => false) (#[xo].map ρ.ev) = _
  simp
theorem OpRuns.builtin2 {xo yo : Operand} {bi : Builtin} {ats : Array TypeId} {s : Sem Value} (he : builtin bi ats ty #[match xo with | .const _ => true | _ => false, match yo with | .const _ => true | _ => false] #[ρ.ev xo, ρ.ev yo] = (do pure (Next.value (← s)))) (h : Runs P s w K) :
    OpRuns P ρ ⟨dst, .call { callee := .builtin bi, args := #[xo, yo], argTypes := ats }, ty, pos, aft, g⟩ w K := by
  refine .ofV (s := s) ?_ h
  rw [← he]
  show builtin bi ats ty (#[xo, yo].map fun | .const _ => true | _ => false) (#[xo, yo].map ρ.ev) = _
  simp
theorem r_lenSlice {xo : Operand} {el : TypeId} {a : Option Addr} {len cap : Nat} (ht : tinfo P t = some (.slice el, n, by_, zv)) (hx : ρ.ev xo = .slice a len cap) (h : K (.int .i64 (len : Int)) w) :
    OpRuns P ρ ⟨dst, .call { callee := .builtin .len, args := #[xo], argTypes := #[t] }, ty, pos, aft, g⟩ w K := by
  refine .builtin1 (s := Builtin.len_ #[t] ty #[ρ.ev xo]) rfl ?_
  rw [hx]; unfold Builtin.len_
  simp only [List.getElem?_toArray, List.getElem?_cons_zero]
  exact .bind (.underlying ht h)
theorem r_lenString {xo : Operand} {bs : ByteArray} (ht : tinfo P t = some (.string, n, by_, zv)) (hx : ρ.ev xo = .string bs) (h : K (.int .i64 (bs.size : Int)) w) :
    OpRuns P ρ ⟨dst, .call { callee := .builtin .len, args := #[xo], argTypes := #[t] }, ty, pos, aft, g⟩ w K := by
  refine .builtin1 (s := Builtin.len_ #[t] ty #[ρ.ev xo]) rfl ?_
  rw [hx]; unfold Builtin.len_
  simp only [List.getElem?_toArray, List.getElem?_cons_zero]
  exact .bind (.underlying ht h)
theorem r_lenMap {xo : Operand} {key el : TypeId} {r : Option Nat} {m : Nat} (ht : tinfo P t = some (.map key el, n, by_, zv)) (hx : ρ.ev xo = .map r)
    (hm : match r with | none => m = 0 | some q => ∃ es ck, w.heap[q]? = some (.map es ck) ∧ es.size = m) (h : K (.int .i64 (m : Int)) w) :
    OpRuns P ρ ⟨dst, .call { callee := .builtin .len, args := #[xo], argTypes := #[t] }, ty, pos, aft, g⟩ w K := by
  refine .builtin1 (s := Builtin.len_ #[t] ty #[ρ.ev xo]) rfl ?_
  rw [hx]; unfold Builtin.len_
  simp only [List.getElem?_toArray, List.getElem?_cons_zero]
  cases r with
  | none => subst hm; exact .bind (.underlying ht h)
  | some q =>
    obtain ⟨es, ck, hq, rfl⟩ := hm
    exact .bind (.underlying ht (.bind (.getObj hq (by intros; simp) h)))
theorem r_max2 {xo yo : Operand} {k : IntKind} {p q : Int} {ats : Array TypeId} (hx : ρ.ev xo = .int k p) (hy : ρ.ev yo = .int k q) (h : K (.int k (max p q)) w) :
    OpRuns P ρ ⟨dst, .call { callee := .builtin .max, args := #[xo, yo], argTypes := ats }, ty, pos, aft, g⟩ w K := by
  refine .builtin2 (s := Builtin.max_ ats ty #[ρ.ev xo, ρ.ev yo]) rfl ?_
  rw [hx, hy]
  have : Builtin.max_ ats ty #[.int k p, .int k q] = (do pure (.int k (if q > p then q else p)) : Sem Value) := rfl
  rw [this]
  have e : (if q > p then q else p) = max p q := by split <;> omega
  rw [e]; exact h
theorem r_min2 {xo yo : Operand} {k : IntKind} {p q : Int} {ats : Array TypeId} (hx : ρ.ev xo = .int k p) (hy : ρ.ev yo = .int k q) (h : K (.int k (min p q)) w) :
    OpRuns P ρ ⟨dst, .call { callee := .builtin .min, args := #[xo, yo], argTypes := ats }, ty, pos, aft, g⟩ w K := by
  refine .builtin2 (s := Builtin.min_ ats ty #[ρ.ev xo, ρ.ev yo]) rfl ?_
  rw [hx, hy]
  have : Builtin.min_ ats ty #[.int k p, .int k q] = (do pure (.int k (if q < p then q else p)) : Sem Value) := rfl
  rw [this]
  have e : (if q < p then q else p) = min p q := by split <;> omega
  rw [e]; exact h

/-! Slices of slices. -/
theorem r_sliceSl {el : TypeId} {ue : TypeDesc} {ne be : Nat} {ze : Value} {a : Option Addr} {len cap : Nat} {lo hi : Option Operand} {l h' : Nat} (ht : tinfo P t = some (.slice el, n, by_, zv)) (he : tinfo P el = some (ue, ne, be, ze))
    (hx : ρ.ev x = .slice a len cap) (hlo : match lo with | none => l = 0 | some q => ∃ k, ρ.ev q = .int k (l : Int)) (hhi : match hi with | none => h' = len | some q => ∃ k, ρ.ev q = .int k (h' : Int))
    (h1 : l ≤ h') (h2 : h' ≤ cap) (h : K (.slice (if cap = l then a else a.map (·.add (l * ne))) (h' - l) (cap - l)) w) :
    OpRuns P ρ ⟨dst, .slice t x lo hi none, ty, pos, aft, g⟩ w K := by
  refine .ofV (s := Instr.sliceAt t (ρ.ev x) (lo.map ρ.ev) (hi.map ρ.ev) (none.map ρ.ev)) rfl ?_
  rw [hx]; unfold Instr.sliceAt
  refine .bind (.underlying ht ?_)
  show Runs P (Instr.slice t (.slice a len cap) (lo.map ρ.ev) (hi.map ρ.ev) none) w K
  unfold Instr.slice
  refine .bind (.underlying ht (.bind ?_))
  have hb : Runs P (Instr.sliceBounds true len cap (lo.map ρ.ev) (hi.map ρ.ev) none) w (fun r w' => r = (l, h', cap) ∧ w' = w) := by
    have hl : ∀ (K : Nat → World → Prop) (q : Operand), ρ.ev q = .int .i64 (l : Int) ∨ (∃ k, ρ.ev q = .int k (l : Int)) → K l w → Runs P (Instr.sliceBound (ρ.ev q) h' .sliceB) w K := by
      intro K q hq hK
      obtain ⟨k, hq⟩ : ∃ k, ρ.ev q = .int k (l : Int) := hq.elim (fun h => ⟨_, h⟩) id
      rw [hq]; unfold Instr.sliceBound
      refine Runs.bind (Runs.pure ?_)
      simp only
      rw [if_pos (by omega)]
      exact Runs.pure (by rw [Int.toNat_natCast]; exact hK)
    have hh : ∀ (K : Nat → World → Prop) (q : Operand), (∃ k, ρ.ev q = .int k (h' : Int)) → K h' w → Runs P (Instr.sliceBound (ρ.ev q) cap .sliceAcap) w K := by
      rintro K q ⟨k, hq⟩ hK
      rw [hq]; unfold Instr.sliceBound
      refine Runs.bind (Runs.pure ?_)
      simp only
      rw [if_pos (by omega)]
      exact Runs.pure (by rw [Int.toNat_natCast]; exact hK)
    unfold Instr.sliceBounds
    cases hi with
    | none =>
      subst hhi
      refine Runs.bind (Runs.pure ?_)
      refine Runs.bind (Runs.pure ?_)
      cases lo with
      | none => subst hlo; exact Runs.bind (Runs.pure (Runs.pure ⟨rfl, rfl⟩))
      | some q => exact Runs.bind (hl _ q (.inr hlo) (Runs.pure ⟨rfl, rfl⟩))
    | some q' =>
      refine Runs.bind (Runs.pure ?_)
      refine Runs.bind (hh _ q' hhi ?_)
      cases lo with
      | none => subst hlo; exact Runs.bind (Runs.pure (Runs.pure ⟨rfl, rfl⟩))
      | some q => exact Runs.bind (hl _ q (.inr hlo) (Runs.pure ⟨rfl, rfl⟩))
  refine hb.mono ?_
  rintro r w' ⟨rfl, rfl⟩
  exact .bind (.sizeOf he (.pure h))

end
end Go.Sx
namespace Go.Sx

/-! ### Calls -/

/-- A function that is entered. -/
def callable (P : Program) (f : FuncId) : Bool :=
  match P.funcs[f]? with
  | some fn => fn.name != "runtime.NumGoroutine" && fn.body.isSome
  | none => false

section
variable {P : Program} {ρ : Env} {w : World} {K : Value → World → Prop} {dst : Option Tmp} {ty : TypeId} {pos : String} {aft : Array Edge} {g : Option (Nat × Bool)}
variable {E : Ent} {M : RO} {L Lin Lr : List HProp}

theorem run_callFunc {f : FuncId} (hc : callable P f = true) (args : Array Value) : (callFunc f args).run P w = .ok (.enter f args) w := by
  unfold callable at hc
  split at hc
  · rename_i fn hf
    simp only [Bool.and_eq_true, bne_iff_ne, ne_eq] at hc
    have hb : fn.body.isNone = false := by
      have := hc.2
      cases h : fn.body <;> simp_all
    have hn : (fn.name == "runtime.NumGoroutine") = false := by simpa using hc.1
    unfold callFunc
    have hn' : fn.name ≠ "runtime.NumGoroutine" := by simpa using hn
    have hb' : fn.body ≠ none := by intro e; rw [e] at hb; cases hb
    simp [Go.program, Sem.run, hf, hn', hb', Bind.bind, Sem.bind]
  · cases hc

theorem OpRuns.enter {o : Oper} {f : FuncId} {args : List Value} {Post : Value → RO → List HProp → Prop} (he : (execOp ρ.ev o).run P w = .ok (.enter f args.toArray) w)
    (hs : Sp P f args M Lin Post) (H : Hp E M (Lin ++ Lr) w) (h : ∀ v M' L' w', M.le M' → Post v M' L' → Hp E M' (L' ++ Lr) w' → K v w') : OpRuns P ρ o w K := by
  unfold OpRuns
  rw [he]
  obtain ⟨E', hw, hM, hH, hback⟩ := H.call
  subst hw
  refine (hs E' hM hH).mono ?_
  rintro e w' ⟨v, M', L', rfl, hh, hp⟩
  exact h v M' L' w' (hM ▸ hh.le) hp (hback M' L' w' hh)

theorem r_call {f : FuncId} {l : List Operand} {ats : Array TypeId} {Post : Value → RO → List HProp → Prop} (hc : callable P f = true) (hs : Sp P f (l.map ρ.ev) M Lin Post)
    (H : Hp E M (Lin ++ Lr) w) (h : ∀ v M' L' w', M.le M' → Post v M' L' → Hp E M' (L' ++ Lr) w' → K v w') :
    OpRuns P ρ ⟨dst, .call { callee := .value (.func f), args := l.toArray, argTypes := ats }, ty, pos, aft, g⟩ w K := by
  refine .enter ?_ hs H h
  have : execOp ρ.ev ⟨dst, .call { callee := .value (.func f), args := l.toArray, argTypes := ats }, ty, pos, aft, g⟩ = callFunc f (#[] ++ (l.toArray.map ρ.ev) ++ #[]) := rfl
  rw [this, run_callFunc hc]
  simp

/-- A call of a function value. -/
theorem r_callV {f : FuncId} {fo : Operand} {first cap : Array Value} {l : List Operand} {ats : Array TypeId} {Post : Value → RO → List HProp → Prop} (hc : callable P f = true) (hf : ρ.ev fo = .func (.func f) first cap)
    (hs : Sp P f (first.toList ++ l.map ρ.ev ++ cap.toList) M Lin Post)
    (H : Hp E M (Lin ++ Lr) w) (h : ∀ v M' L' w', M.le M' → Post v M' L' → Hp E M' (L' ++ Lr) w' → K v w') :
    OpRuns P ρ ⟨dst, .call { callee := .value fo, args := l.toArray, argTypes := ats }, ty, pos, aft, g⟩ w K := by
  refine .enter ?_ hs H h
  have : execOp ρ.ev ⟨dst, .call { callee := .value fo, args := l.toArray, argTypes := ats }, ty, pos, aft, g⟩ = (do let d ← Deferred.ofValue (ρ.ev fo) (l.toArray.map ρ.ev); invoke d.target d.args) := rfl
  rw [this, hf]
  show (callFunc f ((first ++ l.toArray.map ρ.ev) ++ cap)).run P w = _
  rw [run_callFunc hc]
  congr 2
  apply Array.ext'; simp

/-- A callee whose contract is said in the kit's own words. -/
theorem r_callK {f : FuncId} {l : List Operand} {ats : Array TypeId} {R : Ending → World → Prop} (hc : callable P f = true) (hs : Calls P f (l.map ρ.ev).toArray w R)
    (h : ∀ e w', R e w' → ∃ v, e = .returned v ∧ K v w') :
    OpRuns P ρ ⟨dst, .call { callee := .value (.func f), args := l.toArray, argTypes := ats }, ty, pos, aft, g⟩ w K := by
  have : execOp ρ.ev ⟨dst, .call { callee := .value (.func f), args := l.toArray, argTypes := ats }, ty, pos, aft, g⟩ = callFunc f (#[] ++ (l.toArray.map ρ.ev) ++ #[]) := rfl
  unfold OpRuns
  rw [this, run_callFunc hc]
  have e : (#[] ++ Array.map ρ.ev l.toArray ++ #[] : Array Value) = (l.map ρ.ev).toArray := by simp
  simp only [e]
  refine hs.mono fun e w' hR => ?_
  obtain ⟨v, rfl, hk⟩ := h e w' hR
  exact hk
end

/-! ### Strings -/
section
variable {P : Program} {ρ : Env} {w : World} {K : Value → World → Prop} {dst : Option Tmp} {ty : TypeId} {pos : String} {aft : Array Edge} {g : Option (Nat × Bool)}
variable {t yt : TypeId} {u : TypeDesc} {n by_ : Nat} {zv v : Value} {x y : Operand} {a b : List UInt8}

theorem ba_toList_loop (s : ByteArray) : ∀ (n i : Nat) (acc : List UInt8), s.size - i = n → ByteArray.toList.loop s i acc = acc.reverse ++ s.data.toList.drop i := by
  intro n
  induction n with
  | zero =>
    intro i acc h
    unfold ByteArray.toList.loop
    have hs : s.size = s.data.size := rfl
    rw [if_neg (by omega)]
    rw [List.drop_eq_nil_of_le (by simp; omega)]; simp
  | succ n ih =>
    intro i acc h
    unfold ByteArray.toList.loop
    have hs : s.size = s.data.size := rfl
    rw [if_pos (by omega), ih (i + 1) _ (by omega)]
    have hi : i < s.data.toList.length := by simp; omega
    rw [List.drop_eq_getElem_cons hi]
    have : s.get! i = s.data.toList[i] := by
      have hlt : i < s.data.size := by omega
      show s.data[i]! = _
      rw [getElem!_pos s.data i hlt]; simp
    simp [this]
theorem ba_toList (s : ByteArray) : s.toList = s.data.toList := by
  unfold ByteArray.toList
  rw [ba_toList_loop s _ 0 [] rfl]; simp

theorem ba_append (a b : List UInt8) : (⟨a.toArray⟩ ++ ⟨b.toArray⟩ : ByteArray) = ⟨(a ++ b).toArray⟩ := by
  apply ByteArray.ext
  rw [ByteArray.data_append]
  simp

theorem ba_extract (a : List UInt8) (l h : Nat) : (⟨a.toArray⟩ : ByteArray).extract l h = ⟨((a.take h).drop l).toArray⟩ := by
  apply ByteArray.ext
  rw [ByteArray.data_extract]
  simp [List.extract_eq_take_drop, List.drop_take]

theorem r_binStr {op : BinOp} {sa sb : ByteArray} (hx : ρ.ev x = .string sa) (hy : ρ.ev y = .string sb) (h : Runs P (Op.stringOp op sa sb) w K) (hop : op ≠ .shl ∧ op ≠ .shr) : OpRuns P ρ ⟨dst, .binOp op t x y yt, ty, pos, aft, g⟩ w K := by
  refine .ofV (s := do eqGuard op t x y (ρ.ev x) (ρ.ev y); Go.binOp op t (ρ.ev x) (ρ.ev y)) rfl ?_
  rw [hx, hy]
  refine Runs.bind ?_
  have : Runs P (eqGuard op t x y (.string sa) (.string sb)) w fun _ w' => w' = w := by
    unfold eqGuard; cases op <;> exact rfl
  refine this.mono ?_
  rintro _ w' rfl
  cases op <;> first | exact h | exact absurd rfl hop.1 | exact absurd rfl hop.2

theorem r_concat (hx : ρ.ev x = .string ⟨a.toArray⟩) (hy : ρ.ev y = .string ⟨b.toArray⟩) (hl : a.length + b.length ≤ 9223372036854775807) (h : K (.string ⟨(a ++ b).toArray⟩) w) :
    OpRuns P ρ ⟨dst, .binOp .add t x y yt, ty, pos, aft, g⟩ w K := by
  refine r_binStr hx hy ?_ ⟨by simp, by simp⟩
  have h1 : (⟨a.toArray⟩ : ByteArray).size = a.length := by simp [ByteArray.size]
  have h2 : (⟨b.toArray⟩ : ByteArray).size = b.length := by simp [ByteArray.size]
  unfold Op.stringOp
  simp only [h1, h2]
  rw [if_neg (by simp [IntKind.max, IntKind.signed, IntKind.bits]; omega), ba_append]
  exact h
theorem r_eqlS (hx : ρ.ev x = .string ⟨a.toArray⟩) (hy : ρ.ev y = .string ⟨b.toArray⟩) (h : K (.bool (a == b)) w) : OpRuns P ρ ⟨dst, .binOp .eql t x y yt, ty, pos, aft, g⟩ w K := by
  refine r_binStr hx hy ?_ ⟨by simp, by simp⟩
  unfold Op.stringOp
  simp only [ba_toList]
  exact h
theorem r_neqS (hx : ρ.ev x = .string ⟨a.toArray⟩) (hy : ρ.ev y = .string ⟨b.toArray⟩) (h : K (.bool (!(a == b))) w) : OpRuns P ρ ⟨dst, .binOp .neq t x y yt, ty, pos, aft, g⟩ w K := by
  refine r_binStr hx hy ?_ ⟨by simp, by simp⟩
  unfold Op.stringOp
  simp only [ba_toList]
  exact h

/-- s[i] -/
theorem r_indexS {ix : Operand} {k : IntKind} {j : Nat} {c : UInt8} (ht : tinfo P t = some (.string, n, by_, zv)) (hx : ρ.ev x = .string ⟨a.toArray⟩) (hi : ρ.ev ix = .int k (j : Int)) (hc : a[j]? = some c)
    (h : K (.int .u8 (c.toNat : Int)) w) : OpRuns P ρ ⟨dst, .index t x ix, ty, pos, aft, g⟩ w K := by
  refine .ofV (s := Instr.index t (ρ.ev x) (ρ.ev ix)) rfl ?_
  rw [hx, hi]; unfold Instr.index
  refine Runs.bind (Runs.pure ?_)
  refine Runs.bind (Runs.underlying ht ?_)
  have hlt : j < a.length := by
    rcases Nat.lt_or_ge j a.length with h' | h'
    · exact h'
    · rw [List.getElem?_eq_none h'] at hc; cases hc
  have hsz : (⟨a.toArray⟩ : ByteArray).size = a.length := by simp [ByteArray.size]
  have : (if (0 : Int) ≤ (j : Int) then (⟨a.toArray⟩ : ByteArray)[(j : Int).toNat]? else none) = some c := by
    rw [if_pos (by omega), Int.toNat_natCast]
    rw [getElem?_pos (⟨a.toArray⟩ : ByteArray) j (by omega)]
    rw [List.getElem?_eq_getElem hlt] at hc
    simpa [ByteArray.getElem_eq_getElem_data] using hc
  simp only [this]
  exact Runs.pure h

/-- s[lo:hi] -/
theorem r_sliceS {lo hi : Option Operand} {l h' : Nat} (ht : tinfo P t = some (.string, n, by_, zv)) (hx : ρ.ev x = .string ⟨a.toArray⟩)
    (hlo : match lo with | none => l = 0 | some q => ∃ k, ρ.ev q = .int k (l : Int)) (hhi : match hi with | none => h' = a.length | some q => ∃ k, ρ.ev q = .int k (h' : Int))
    (h1 : l ≤ h') (h2 : h' ≤ a.length) (h : K (.string ⟨((a.take h').drop l).toArray⟩) w) :
    OpRuns P ρ ⟨dst, .slice t x lo hi none, ty, pos, aft, g⟩ w K := by
  refine .ofV (s := Instr.sliceAt t (ρ.ev x) (lo.map ρ.ev) (hi.map ρ.ev) (none.map ρ.ev)) rfl ?_
  rw [hx]; unfold Instr.sliceAt
  refine Runs.bind (Runs.underlying ht ?_)
  show Runs P (Instr.slice t (.string ⟨a.toArray⟩) (lo.map ρ.ev) (hi.map ρ.ev) none) w K
  unfold Instr.slice
  refine Runs.bind (Runs.underlying ht ?_)
  have hsz : (⟨a.toArray⟩ : ByteArray).size = a.length := by simp [ByteArray.size]
  simp only [Option.isSome_none, Bool.false_eq_true, if_false, hsz]
  have hl : ∀ (K : Nat → World → Prop) (q : Operand), (∃ k, ρ.ev q = .int k (l : Int)) → K l w → Runs P (Instr.sliceBound (ρ.ev q) h' .sliceB) w K := by
    rintro K q ⟨k, hq⟩ hK
    rw [hq]; unfold Instr.sliceBound
    refine Runs.bind (Runs.pure ?_)
    simp only
    rw [if_pos (by omega)]
    exact Runs.pure (by rw [Int.toNat_natCast]; exact hK)
  have hh : ∀ (K : Nat → World → Prop) (q : Operand), (∃ k, ρ.ev q = .int k (h' : Int)) → K h' w → Runs P (Instr.sliceBound (ρ.ev q) a.length .sliceAlen) w K := by
    rintro K q ⟨k, hq⟩ hK
    rw [hq]; unfold Instr.sliceBound
    refine Runs.bind (Runs.pure ?_)
    simp only
    rw [if_pos (by omega)]
    exact Runs.pure (by rw [Int.toNat_natCast]; exact hK)
  have hb : Runs P (Instr.sliceBounds false a.length a.length (lo.map ρ.ev) (hi.map ρ.ev) none) w (fun r w' => r = (l, h', a.length) ∧ w' = w) := by
    unfold Instr.sliceBounds
    cases hi with
    | none =>
      subst hhi
      refine Runs.bind (Runs.pure ?_)
      refine Runs.bind (Runs.pure ?_)
      cases lo with
      | none => subst hlo; exact Runs.bind (Runs.pure (Runs.pure ⟨rfl, rfl⟩))
      | some q => exact Runs.bind (hl _ q hlo (Runs.pure ⟨rfl, rfl⟩))
    | some q' =>
      refine Runs.bind (Runs.pure ?_)
      refine Runs.bind (hh _ q' hhi ?_)
      cases lo with
      | none => subst hlo; exact Runs.bind (Runs.pure (Runs.pure ⟨rfl, rfl⟩))
      | some q => exact Runs.bind (hl _ q hlo (Runs.pure ⟨rfl, rfl⟩))
  refine Runs.bind (hb.mono ?_)
  rintro r w' ⟨rfl, rfl⟩
  rw [ba_extract]
  exact Runs.pure h

theorem r_lenS {xo : Operand} (ht : tinfo P t = some (.string, n, by_, zv)) (hx : ρ.ev xo = .string ⟨a.toArray⟩) (h : K (.int .i64 (a.length : Int)) w) :
    OpRuns P ρ ⟨dst, .call { callee := .builtin .len, args := #[xo], argTypes := #[t] }, ty, pos, aft, g⟩ w K :=
  r_lenString ht hx (by
    have : (⟨a.toArray⟩ : ByteArray).size = a.length := by simp [ByteArray.size]
    rw [this]; exact h)
end

/-! ### Owned rows that grow -/

/-- The slice value v, owned: a row of elements of type e (ne cells each) whose cells within its length are xs. -/
def sl (e : TypeId) (ne : Nat) (v : Value) (xs : List Value) : HProp := fun F =>
  (v = .slice none 0 0 ∧ xs = [] ∧ F = []) ∨
  ∃ (b : Nat) (c : Array Value) (len cap : Nat), v = .slice (some ⟨b, 0, none⟩) len cap ∧ xs.length = len * ne ∧ len ≤ cap ∧ c.size = cap * ne ∧ c.toList.take (len * ne) = xs ∧ F = [(b, .cells c e (0, 0))]

section
variable {P : Program} {ρ : Env} {w : World} {K : Value → World → Prop} {dst : Option Tmp} {ty : TypeId} {pos : String} {aft : Array Edge} {g : Option (Nat × Bool)}
variable {E : Ent} {M : RO} {L : List HProp}

theorem Hp.subst {i : Nat} {c c' : HProp} (h : Hp E M L w) (hi : At L i c) (hc : ∀ F, c F → c' F) : Hp E M (L.set i c') w := by
  obtain ⟨A, R, h1, h0, hset, _⟩ := h.focus hi
  exact hset E M w c' A (hc A h1) h0

/-- A chunk of no block comes in. -/
theorem Hp.emp {c : HProp} (h : Hp E M L w) (hc : c []) : Hp E M (c :: L) w := by
  obtain ⟨F, hs, h0⟩ := h
  exact ⟨F, ⟨[], F, hc, hs, rfl⟩, h0⟩

theorem sl_nil (e : TypeId) (ne : Nat) : sl e ne (.slice none 0 0) [] [] := .inl ⟨rfl, rfl, rfl⟩

theorem sl_of_pt {e : TypeId} {ne b len cap : Nat} {c : Array Value} (hsz : c.size = cap * ne) (hl : len ≤ cap) (F : Own) (h : pt b (.cells c e (0, 0)) F) : sl e ne (.slice (some ⟨b, 0, none⟩) len cap) (c.toList.take (len * ne)) F := by
  refine .inr ⟨b, c, len, cap, rfl, ?_, hl, hsz, rfl, h⟩
  rw [List.length_take]
  have : len * ne ≤ cap * ne := Nat.mul_le_mul_right _ hl
  rw [Array.length_toList, hsz]; omega

theorem growBy_le (newLen : Nat) : ∀ (r c : Nat), c < newLen → Builtin.growBy newLen r c ≤ 2 * newLen + 768 * 2 ^ r := by
  intro r
  induction r with
  | zero => intro c h; simp [Builtin.growBy]; omega
  | succ r ih =>
    intro c h
    unfold Builtin.growBy
    rw [if_neg (by omega)]
    by_cases h2 : c + (c + 768) / 4 < newLen
    · have := ih _ h2; rw [Nat.pow_succ]; omega
    · have hb : Builtin.growBy newLen r (c + (c + 768) / 4) = c + (c + 768) / 4 := by
        cases r with
        | zero => rfl
        | succ r => unfold Builtin.growBy; rw [if_pos (by omega)]
      rw [hb]
      have : 768 * 2 ^ (r + 1) ≥ 768 := by have := Nat.one_le_two_pow (n := r + 1); omega
      omega

theorem nextslicecap_le {need cap : Nat} (h : cap < need) : Builtin.nextslicecap need cap ≤ 2 * need + 12288 := by
  unfold Builtin.nextslicecap
  split
  · omega
  · split
    · omega
    · have := growBy_le need 4 cap h; omega

/-- What is appended: the cells of a slice value. -/
def srcCells (w : World) (m ne : Nat) (src : Value) (ys : List Value) : Prop :=
  (∃ a cap, src = .slice a m cap ∧ m = 0 ∧ ys = []) ∨ ∃ b o cap c e z, src = .slice (some ⟨b, o, none⟩) m cap ∧ w.heap[b]? = some (.cells c e z) ∧ o + m * ne ≤ c.size ∧ (c.extract o (o + m * ne)).toList = ys

theorem srcCells.run {m ne : Nat} {src : Value} {ys : List Value} (h : srcCells w m ne src ys) {K : Array Value → World → Prop} (hk : K ys.toArray w) : Runs P (Builtin.firstCells ne m src) w K := by
  rcases h with ⟨a, cap, rfl, rfl, rfl⟩ | ⟨b, o, cap, c, e, z, rfl, hb, hsz, rfl⟩
  · cases a with
    | none => exact hk
    | some a =>
      unfold Builtin.firstCells
      rw [Nat.zero_mul]
      exact hk
  · unfold Builtin.firstCells
    refine Runs.of_eq (run_loadCells hb hsz) ?_
    rwa [Array.toArray_toList] at hk

theorem srcCells.length {m ne : Nat} {src : Value} {ys : List Value} (h : srcCells w m ne src ys) : ys.length = m * ne := by
  rcases h with ⟨a, cap, rfl, rfl, rfl⟩ | ⟨b, o, cap, c, e, z, rfl, hb, hsz, rfl⟩
  · simp
  · simp; omega

theorem srcCells.lenOf {m ne : Nat} {src : Value} {ys : List Value} (h : srcCells w m ne src ys) : Builtin.lenOf src = pure m := by
  rcases h with ⟨a, cap, rfl, rfl, rfl⟩ | ⟨b, o, cap, c, e, z, rfl, hb, hsz, rfl⟩ <;> rfl

theorem r_append {xo yo : Operand} {t el t1 : TypeId} {n by_ ne be n1 b1 : Nat} {zv ze z1 v src : Value} {ue u1 : TypeDesc} {i m : Nat} {xs ys : List Value}
    (ht : tinfo P t = some (.slice el, n, by_, zv)) (he : tinfo P el = some (ue, ne, be, ze)) (ht1 : tinfo P t1 = some (u1, n1, b1, z1)) (hu1 : ∀ k, u1 ≠ .int k)
    (hze : ze.cells.size = ne) (hx : ρ.ev xo = v) (hy : ρ.ev yo = src) (H : Hp E M L w) (hi : At L i (sl el ne v xs)) (hsrc : srcCells w m ne src ys) (hone : ys.all oneCell = true)
    (hlen : xs.length / ne + m ≤ 4294967296) (hne : 0 < ne) (hbe : be ≤ 4096) (h : ∀ v' w', Hp E M (L.set i (sl el ne v' (xs ++ ys))) w' → K v' w') :
    OpRuns P ρ ⟨dst, .call { callee := .builtin .append, args := #[xo, yo], argTypes := #[t, t1] }, ty, pos, aft, g⟩ w K := by
  refine .builtin2 (s := Builtin.append_ #[t, t1] ty #[ρ.ev xo, ρ.ev yo]) rfl ?_
  rw [hx, hy]
  obtain ⟨A, R, hA, h0, hset, _⟩ := H.focus hi
  have hys := hsrc.length
  have hlenOf := hsrc.lenOf
  -- the slice's own parts
  obtain ⟨base, len, cap, hv, hxs, hlc, hrow⟩ : ∃ (base : Option Addr) (len cap : Nat), v = .slice base len cap ∧ xs.length = len * ne ∧ len ≤ cap ∧
      ((base = none ∧ len = 0 ∧ cap = 0 ∧ A = []) ∨ ∃ b c, base = some ⟨b, 0, none⟩ ∧ c.size = cap * ne ∧ c.toList.take (len * ne) = xs ∧ A = [(b, .cells c el (0, 0))]) := by
    rcases hA with ⟨rfl, rfl, rfl⟩ | ⟨b, c, len, cap, rfl, hxs, hlc, hsz, htk, rfl⟩
    · exact ⟨none, 0, 0, rfl, by simp, Nat.le_refl _, .inl ⟨rfl, rfl, rfl, rfl⟩⟩
    · exact ⟨_, len, cap, rfl, hxs, hlc, .inr ⟨b, c, rfl, hsz, htk, rfl⟩⟩
  subst hv
  have hlen' : len + m ≤ 4294967296 := by
    rw [hxs, Nat.mul_div_cancel _ hne] at hlen; exact hlen
  unfold Builtin.append_
  simp only [List.getElem?_toArray, List.getElem?_cons_zero, List.getElem?_cons_succ]
  refine Runs.bind (Runs.underlying ht ?_)
  refine Runs.bind (Runs.sizeOf he ?_)
  refine Runs.bind (Runs.underlying ht1 ?_)
  refine Runs.bind (Runs.pure ?_)
  simp only [Bool.false_eq_true, if_false, hlenOf, Bool.not_false, if_true, false_or]
  refine Runs.bind (Runs.pure ?_)
  by_cases hroom : len + m ≤ cap
  · rw [if_pos hroom]
    refine Runs.bind (hsrc.run ?_)
    rcases hrow with ⟨rfl, rfl, rfl, rfl⟩ | ⟨b, c, rfl, hsz, htk, rfl⟩
    · have hm : m = 0 := by omega
      subst hm
      have hys0 : ys = [] := List.eq_nil_of_length_eq_zero (by omega)
      have hxs0 : xs = [] := List.eq_nil_of_length_eq_zero (by omega)
      subst hys0 hxs0
      exact Runs.pure (h _ _ (hset E M w _ [] (.inl ⟨rfl, rfl, rfl⟩) h0))
    · have hi' : At (pt b (.cells c el (0, 0)) :: [fun F => F = R]) 0 (pt b (.cells c el (0, 0))) := .head
      have H' : Hp E M (pt b (.cells c el (0, 0)) :: [fun F => F = R]) w := ⟨(b, .cells c el (0, 0)) :: R, ⟨[(b, .cells c el (0, 0))], R, rfl, ⟨R, [], rfl, rfl, by simp⟩, rfl⟩, h0⟩
      have hle : len * ne + m * ne ≤ cap * ne := by rw [← Nat.add_mul]; exact Nat.mul_le_mul_right _ hroom
      refine Runs.bind ?_
      rw [addr_add]
      refine Runs.storeCells ys 0 c w _ (fun v hv => by rw [List.all_eq_true] at hone; exact hone v hv) (by omega) H' hi' fun w' hw' => ?_
      obtain ⟨F', ⟨A1, B1, rfl, ⟨A2, B2, rfl, rfl, rfl⟩, rfl⟩, h0'⟩ := hw'
      refine Runs.pure (h _ _ (hset E M w' _ [(b, .cells (splice c (0 + len * ne + 0) ys) el (0, 0))] (.inr ⟨b, _, len + m, cap, rfl, ?_, hroom, ?_, ?_, rfl⟩) (by simpa using h0')))
      · rw [List.length_append, hxs, hys, Nat.add_mul]
      · rw [splice_size, hsz]
      · apply List.ext_getElem?
        intro j
        rw [List.getElem?_take]
        have hg := splice_get ys c (0 + len * ne + 0) (by omega) j
        rw [Array.getElem?_toList, hg]
        by_cases h1 : j < len * ne
        · rw [if_pos (by rw [Nat.add_mul]; omega), if_neg (by omega), List.getElem?_append_left (by omega), ← htk, List.getElem?_take, if_pos h1, Array.getElem?_toList]
        · by_cases h2 : j < (len + m) * ne
          · rw [Nat.add_mul] at h2
            rw [if_pos (by rw [Nat.add_mul]; omega), if_pos (by omega), List.getElem?_append_right (by omega), hxs]
            congr 1; omega
          · rw [if_neg h2]
            rw [Nat.add_mul] at h2
            rw [List.getElem?_eq_none (by rw [List.length_append]; omega)]
  · rw [if_neg hroom]
    refine Runs.bind (Runs.typeInfo he fun inf hi1 hi2 hi3 => ?_)
    have hmax : ¬ (((len + m : Nat) : Int) > IntKind.i64.max ∧ inf.bytes = 0) := by
      simp [IntKind.max, IntKind.signed, IntKind.bits]; omega
    rw [if_neg hmax]
    refine Runs.bind (Runs.typeInfo he fun inf2 hj1 hj2 hj3 => ?_)
    have hcap : ¬ Builtin.nextslicecap (len + m) cap * inf2.bytes > 2 ^ 48 := by
      have h1 := nextslicecap_le (need := len + m) (cap := cap) (by omega)
      have h2 : Builtin.nextslicecap (len + m) cap * inf2.bytes ≤ 8589946880 * 4096 := Nat.mul_le_mul (by omega) (by omega)
      omega
    rw [if_neg hcap]
    refine Runs.bind (Runs.choose (fun hf => by simp [Question.forced] at hf) fun tp d hdd => ?_)
    refine Runs.bind (Runs.typeInfo he fun inf3 _ _ _ => ?_)
    refine Runs.bind (Runs.askRoom ?_)
    have hold : Runs P (Builtin.firstCells ne len (.slice base len cap)) { w with drawn := d } fun a w' => a = xs.toArray ∧ w' = { w with drawn := d } := by
      rcases hrow with ⟨rfl, rfl, rfl, rfl⟩ | ⟨b, c, rfl, hsz, htk, rfl⟩
      · have hxs0 : xs = [] := List.eq_nil_of_length_eq_zero (by omega)
        subst hxs0; exact ⟨rfl, rfl⟩
      · unfold Builtin.firstCells
        have hb : w.heap[b]? = some (.cells c el (0, 0)) := h0.own (b, .cells c el (0, 0)) (by simp)
        have hle : len * ne ≤ cap * ne := Nat.mul_le_mul_right _ hlc
        refine Runs.of_eq (run_loadCells (w := { w with drawn := d }) hb (o := 0) (n := len * ne) (by omega)) ⟨?_, rfl⟩
        rw [← htk]
        apply Array.ext'
        simp [List.extract_eq_take_drop]
    refine Runs.bind (hold.mono ?_)
    rintro _ _ ⟨rfl, rfl⟩
    have hsrc' : srcCells { w with drawn := d } m ne src ys := by
      rcases hsrc with h' | ⟨b, o, cp, c, e, z, h1, h2, h3, h4⟩
      · exact .inl h'
      · exact .inr ⟨b, o, cp, c, e, z, h1, h2, h3, h4⟩
    refine Runs.bind (hsrc'.run ?_)
    refine Runs.bind (Runs.zeroValue he ?_)
    have hdrop : Hp E M [fun F => F = R] { w with drawn := d } := Hp.draw (w := w) (L := [fun F => F = R]) ⟨R, ⟨R, [], rfl, rfl, by simp⟩, h0.sub (List.sublist_append_right A R)⟩ d hdd
    refine Runs.bind (Runs.newRow hdrop fun b w' hb hH => ?_)
    obtain ⟨F', ⟨A1, B1, rfl, ⟨A2, B2, rfl, rfl, rfl⟩, rfl⟩, h0'⟩ := hH
    have hcut : ∃ k, (Question.appendCap (len + m) cap el).cut tp = len + m + k := ⟨tp % (2 ^ 63 - (len + m)), rfl⟩
    obtain ⟨k, hk⟩ := hcut
    rw [hk] at h0' ⊢
    refine Runs.pure (h _ _ (hset E M w' _ [(b, .cells (xs.toArray ++ ys.toArray ++ Builtin.zeroCells ze.cells (len + m + k - (len + m))) el (0, 0))]
      (.inr ⟨b, _, len + m, len + m + k, rfl, ?_, by omega, ?_, ?_, rfl⟩) (by simpa using h0')))
    · rw [List.length_append, hxs, hys, Nat.add_mul]
    · have : (Builtin.zeroCells ze.cells (len + m + k - (len + m))).size = k * ne := by
        unfold Builtin.zeroCells
        rw [Array.size_map, Array.size_range, hze, show len + m + k - (len + m) = k by omega]
      rw [Array.size_append, Array.size_append, this, List.size_toArray, List.size_toArray, hxs, hys, Nat.add_mul, Nat.add_mul]
    · rw [Array.toList_append, Array.toList_append, List.take_append_of_le_length]
      · rw [List.take_of_length_le]
        rw [List.length_append, hxs, hys, Nat.add_mul]; exact Nat.le_refl _
      · rw [List.length_append, hxs, hys, Nat.add_mul]; exact Nat.le_refl _

end
end Go.Sx
namespace Go.Sx

/-- The entries of a map, well kept. -/
structure MOk (P : Program) (kt : TypeId) (es : List MapEntry) (ck : Nat) : Prop where
  keys : ∀ e ∈ es, ∃ l, keyOf P kt e.key = some l
  nodup : (es.map (·.key)).Nodup
  borns : (es.map (·.born)).Nodup
  lt : ∀ e ∈ es, e.born < ck

theorem MOk.nil (P : Program) (kt : TypeId) (ck : Nat) : MOk P kt [] ck := ⟨by simp, by simp, by simp, by simp⟩

theorem MOk.push {P : Program} {kt : TypeId} {es : List MapEntry} {ck : Nat} (h : MOk P kt es ck) {k v : Value} (hk : ∃ l, keyOf P kt k = some l) (hn : ∀ e ∈ es, e.key ≠ k) :
    MOk P kt (es ++ [⟨k, v, ck⟩]) (ck + 1) where
  keys := fun e he => by
    rcases List.mem_append.1 he with he | he
    · exact h.keys e he
    · obtain rfl := List.mem_singleton.1 he; exact hk
  nodup := by
    rw [List.map_append, List.nodup_append]
    refine ⟨h.nodup, by simp, fun x hx y hy => ?_⟩
    obtain ⟨e, he, rfl⟩ := List.mem_map.1 hx
    obtain rfl : y = k := by simpa using hy
    exact hn e he
  borns := by
    rw [List.map_append, List.nodup_append]
    refine ⟨h.borns, by simp, fun x hx y hy => ?_⟩
    obtain ⟨e, he, rfl⟩ := List.mem_map.1 hx
    obtain rfl : y = ck := by simpa using hy
    exact Nat.ne_of_lt (h.lt e he)
  lt := fun e he => by
    rcases List.mem_append.1 he with he | he
    · exact Nat.lt_succ_of_lt (h.lt e he)
    · obtain rfl := List.mem_singleton.1 he; exact Nat.lt_succ_self _

theorem map_set_same {α β : Type} (f : α → β) (l : List α) (j : Nat) (x : α) (hx : ∀ y, l[j]? = some y → f y = f x) : (l.set j x).map f = l.map f := by
  apply List.ext_getElem?
  intro m
  rw [List.getElem?_map, List.getElem?_map, List.getElem?_set]
  split
  · subst_vars
    split
    · rename_i h
      rw [List.getElem?_eq_getElem h]
      simp [hx _ (List.getElem?_eq_getElem h)]
    · rename_i h
      rw [List.getElem?_eq_none (by omega)]
  · rfl

theorem nodup_of_map {α β : Type} (f : α → β) : ∀ (l : List α), (l.map f).Nodup → l.Nodup := by
  intro l
  induction l with
  | nil => intro _; exact List.nodup_nil
  | cons x l ih =>
    intro h
    rw [List.map_cons, List.nodup_cons] at h
    exact List.nodup_cons.2 ⟨fun hx => h.1 (List.mem_map_of_mem hx), ih h.2⟩

theorem inj_of_nodup_map {α β : Type} (f : α → β) : ∀ (l : List α), (l.map f).Nodup → ∀ a ∈ l, ∀ b ∈ l, f a = f b → a = b := by
  intro l
  induction l with
  | nil => intro _ a ha; cases ha
  | cons x l ih =>
    intro h a ha b hb hab
    rw [List.map_cons, List.nodup_cons] at h
    rcases List.mem_cons.1 ha with ha | ha
    · rcases List.mem_cons.1 hb with hb | hb
      · rw [ha, hb]
      · exact absurd (List.mem_map.2 ⟨b, hb, by rw [← hab, ha]⟩) h.1
    · rcases List.mem_cons.1 hb with hb | hb
      · exact absurd (List.mem_map.2 ⟨a, ha, by rw [hab, hb]⟩) h.1
      · exact ih h.2 a ha b hb hab

theorem MOk.set {P : Program} {kt : TypeId} {es : List MapEntry} {ck : Nat} (h : MOk P kt es ck) {j : Nat} {e : MapEntry} (he : es[j]? = some e) (v : Value) :
    MOk P kt (es.set j { e with val := v }) ck where
  keys := fun x hx => by
    rcases List.mem_or_eq_of_mem_set hx with hx | rfl
    · exact h.keys x hx
    · exact h.keys e (List.mem_of_getElem? he)
  nodup := by
    rw [map_set_same]
    · exact h.nodup
    · intro y hy; rw [he] at hy; cases hy; rfl
  borns := by
    rw [map_set_same]
    · exact h.borns
    · intro y hy; rw [he] at hy; cases hy; rfl
  lt := fun x hx => by
    rcases List.mem_or_eq_of_mem_set hx with hx | rfl
    · exact h.lt x hx
    · exact h.lt e (List.mem_of_getElem? he)

section
variable {P : Program} {ρ : Env} {w : World} {K : Value → World → Prop} {dst : Option Tmp} {ty : TypeId} {pos : String} {aft : Array Edge} {g : Option (Nat × Bool)}
variable {E : Ent} {M : RO} {L : List HProp}
variable {t kt et : TypeId} {n by_ : Nat} {zv v : Value} {x y z : Operand} {k : Value} {i q : Nat} {es : List MapEntry} {ck : Nat}

theorem r_makeMap (H : Hp E M L w) (h : ∀ q w', E.w.heap.size ≤ q → Hp E M (pt q (.map #[] 0) :: L) w' → K (.map (some q)) w') : OpRuns P ρ ⟨dst, .makeMap t none, ty, pos, aft, g⟩ w K := by
  refine .ofV (s := Instr.makeMap t (none.map ρ.ev)) rfl ?_
  unfold Instr.makeMap
  exact Runs.bind (Runs.new (Runs.pure (h _ _ H.ent_size (H.alloc _))))

theorem Runs.find (hk : Maps.Keyed P kt) (hm : MOk P kt es ck) (hkey : ∃ l, keyOf P kt k = some l) {K : Option (Nat × Value) → World → Prop}
    (h1 : (∀ e ∈ es, e.key ≠ k) → K none w) (h2 : ∀ j e, es[j]? = some e → e.key = k → K (some (j, e.val)) w) : Runs P (Instr.findKey kt k es) w K := by
  obtain ⟨l, hl⟩ := hkey
  rcases hk.find w hl es hm.keys with ⟨hr, hn⟩ | ⟨j, e, hr, hj, he⟩
  · exact Runs.of_eq hr (h1 hn)
  · exact Runs.of_eq hr (h2 j e hj he)

/-- m[k], v, ok := m[k]: over a map that lies at q. -/
theorem r_lookup {ok : Bool} {ue : TypeDesc} {ne be : Nat} {ze : Value} (ht : tinfo P t = some (.map kt et, n, by_, zv)) (hte : tinfo P et = some (ue, ne, be, ze)) (hk : Maps.Keyed P kt)
    (hx : ρ.ev x = .map (some q)) (hy : ρ.ev y = k) (hq : w.heap[q]? = some (.map es.toArray ck)) (hm : MOk P kt es ck) (hkey : ∃ l, keyOf P kt k = some l)
    (h1 : (∀ e ∈ es, e.key ≠ k) → K (if ok then .tuple #[ze, .bool false] else ze) w) (h2 : ∀ e ∈ es, e.key = k → K (if ok then .tuple #[e.val, .bool true] else e.val) w) :
    OpRuns P ρ ⟨dst, .lookup t x y ok, ty, pos, aft, g⟩ w K := by
  refine .ofV (s := Instr.lookup t (ρ.ev x) (ρ.ev y) ok) rfl ?_
  rw [hx, hy]; unfold Instr.lookup
  obtain ⟨l, hl⟩ := hkey
  refine Runs.bind (Runs.underlying ht ?_)
  refine Runs.bind (Runs.getObj hq (by intros; simp) ?_)
  refine Runs.bind (Runs.pure ?_)
  refine Runs.bind (Runs.of_eq (hk.check w _ hl) ?_)
  refine Runs.bind (Runs.find (es := es) (k := k) hk hm ⟨l, hl⟩ (fun hn => ?_) (fun j e hj he => ?_))
  · refine Runs.bind (Runs.zeroValue hte ?_)
    refine Runs.bind (Runs.pure ?_)
    exact Runs.pure (h1 hn)
  · refine Runs.bind (Runs.pure ?_)
    exact Runs.pure (h2 e (List.mem_of_getElem? hj) he)

/-- A look-up in a nil map. -/
theorem r_lookupNil {ok : Bool} {ue : TypeDesc} {ne be : Nat} {ze : Value} (ht : tinfo P t = some (.map kt et, n, by_, zv)) (hte : tinfo P et = some (ue, ne, be, ze)) (hk : Maps.Keyed P kt)
    (hx : ρ.ev x = .map none) (hy : ρ.ev y = k) (hkey : ∃ l, keyOf P kt k = some l) (h : K (if ok then .tuple #[ze, .bool false] else ze) w) :
    OpRuns P ρ ⟨dst, .lookup t x y ok, ty, pos, aft, g⟩ w K := by
  refine .ofV (s := Instr.lookup t (ρ.ev x) (ρ.ev y) ok) rfl ?_
  rw [hx, hy]; unfold Instr.lookup
  obtain ⟨l, hl⟩ := hkey
  refine Runs.bind (Runs.underlying ht ?_)
  refine Runs.bind (Runs.pure ?_)
  refine Runs.bind (Runs.of_eq (hk.check w _ hl) ?_)
  refine Runs.bind (Runs.find (es := []) (k := k) hk (MOk.nil P kt 0) ⟨l, hl⟩ (fun hn => ?_) (fun j e hj he => by simp at hj))
  refine Runs.bind (Runs.zeroValue hte ?_)
  refine Runs.bind (Runs.pure ?_)
  exact Runs.pure h

/-- m[k] = v: over an owned map. -/
theorem r_mapUpdate (ht : tinfo P t = some (.map kt et, n, by_, zv)) (hk : Maps.Keyed P kt) (hx : ρ.ev x = .map (some q)) (hy : ρ.ev y = k) (hz : ρ.ev z = v)
    (H : Hp E M L w) (hi : At L i (pt q (.map es.toArray ck))) (hm : MOk P kt es ck) (hkey : ∃ l, keyOf P kt k = some l)
    (h1 : (∀ e ∈ es, e.key ≠ k) → ∀ w', Hp E M (L.set i (pt q (.map (es ++ [({ key := k, val := v, born := ck } : MapEntry)]).toArray (ck + 1)))) w' → K undef w')
    (h2 : ∀ j e, es[j]? = some e → e.key = k → ∀ w', Hp E M (L.set i (pt q (.map (es.set j { e with val := v }).toArray ck))) w' → K undef w') :
    OpRuns P ρ ⟨dst, .mapUpdate t x y z, ty, pos, aft, g⟩ w K := by
  refine .ofU (s := Instr.mapUpdate t (ρ.ev x) (ρ.ev y) (ρ.ev z)) rfl ?_
  rw [hx, hy, hz]; unfold Instr.mapUpdate
  obtain ⟨l, hl⟩ := hkey
  have hq := H.own hi
  refine Runs.bind (Runs.underlying ht ?_)
  refine Runs.bind (Runs.getObj hq (by intros; simp) ?_)
  refine Runs.bind (Runs.of_eq (hk.check w _ hl) ?_)
  have hturn : ∀ o', Hp E M (L.set i (pt q o')) { w with heap := w.heap.setIfInBounds q o' } := fun o' => by
    refine H.turn hi rfl rfl rfl rfl (by simp) ?_ ?_
    · have hlt : q < w.heap.size := by
        rcases Nat.lt_or_ge q w.heap.size with h' | h'
        · exact h'
        · rw [Array.getElem?_eq_none h'] at hq; cases hq
      simp [hlt]
    · intro m hm'
      simp only [Array.getElem?_setIfInBounds, if_neg (Ne.symm hm')]
  refine Runs.bind (Runs.find (es := es) (k := k) hk hm ⟨l, hl⟩ (fun hn => ?_) (fun j e hj he => ?_))
  · refine Runs.setObj hq (by intros; simp) (h1 hn _ ?_)
    have := hturn (.map (es ++ [({ key := k, val := v, born := ck } : MapEntry)]).toArray (ck + 1))
    simpa using this
  · have hstay : Runs P (Instr.keyThatStays (((es.toArray[j]?).map (·.key)).getD k) k) w fun a w' => a = k ∧ w' = w := by
      have : ((es.toArray[j]?).map (·.key)).getD k = k := by simp [hj, he]
      rw [this]
      exact Runs.of_eq (hk.stays w hl) ⟨rfl, rfl⟩
    refine Runs.bind (hstay.mono ?_)
    intro a w2 h3
    rw [h3.1, h3.2]
    refine Runs.setObj hq (by intros; simp) (h2 j e hj he _ ?_)
    have := hturn (.map (es.set j { e with val := v }).toArray ck)
    have heq : (es.toArray.modify j fun e' => { e' with key := k, val := v }) = (es.set j { e with val := v }).toArray := by
      apply Array.ext_getElem?
      intro m
      rw [Array.getElem?_modify]
      simp only [List.getElem?_toArray, List.getElem?_set]
      have hjl : j < es.length := by
        rcases Nat.lt_or_ge j es.length with h' | h'
        · exact h'
        · rw [List.getElem?_eq_none h'] at hj; cases hj
      by_cases hjm : j = m
      · subst hjm
        rw [if_pos rfl, if_pos rfl, if_pos hjl, hj]
        subst he; rfl
      · rw [if_neg hjm, if_neg hjm]
    rw [heq]; exact this

/-! Ranging. -/
/-- An iterator over the map at q, which holds es: 'done' has been met. -/
def itc (it q : Nat) (ck : Nat) (done : List MapEntry) : HProp := pt it (.mapIter (some q) ck (done.map (·.born)).toArray ck)

theorem r_range (ht : tinfo P t = some (.map kt et, n, by_, zv)) (hx : ρ.ev x = .map (some q)) (H : Hp E M L w) (hq : w.heap[q]? = some (.map es.toArray ck))
    (h : ∀ it w', E.w.heap.size ≤ it → Hp E M (itc it q ck [] :: L) w' → K (.pointer (some ⟨it, 0, none⟩)) w') : OpRuns P ρ ⟨dst, .range t x, ty, pos, aft, g⟩ w K := by
  refine .ofV (s := Instr.range t (ρ.ev x)) rfl ?_
  rw [hx]; unfold Instr.range
  refine Runs.bind (Runs.underlying ht ?_)
  refine Runs.bind (Runs.getObj hq (by intros; simp) ?_)
  refine Runs.bind (Runs.pure ?_)
  exact Runs.bind (Runs.new (Runs.pure (h _ _ H.ent_size (H.alloc _))))

theorem r_rangeNil (ht : tinfo P t = some (.map kt et, n, by_, zv)) (hx : ρ.ev x = .map none) (H : Hp E M L w)
    (h : ∀ it w', E.w.heap.size ≤ it → Hp E M (pt it (.mapIter none 0 #[] 0) :: L) w' → K (.pointer (some ⟨it, 0, none⟩)) w') : OpRuns P ρ ⟨dst, .range t x, ty, pos, aft, g⟩ w K := by
  refine .ofV (s := Instr.range t (ρ.ev x)) rfl ?_
  rw [hx]; unfold Instr.range
  refine Runs.bind (Runs.underlying ht ?_)
  refine Runs.bind (Runs.pure ?_)
  exact Runs.bind (Runs.new (Runs.pure (h _ _ H.ent_size (H.alloc _))))

theorem r_nextNil {it : Nat} (hx : ρ.ev x = .pointer (some ⟨it, 0, none⟩)) (H : Hp E M L w) (hi : At L i (pt it (.mapIter none 0 #[] 0))) (h : K (.tuple #[.bool false]) w) :
    OpRuns P ρ ⟨dst, .next x false, ty, pos, aft, g⟩ w K := by
  refine .ofV (s := Instr.next (ρ.ev x) false ty) rfl ?_
  rw [hx]; unfold Instr.next
  exact Runs.bind (Runs.getObj (H.own hi) (by intros; simp) h)

/-- One step of a range over a map that nobody turns meanwhile. -/
theorem r_next {it : Nat} {done : List MapEntry} (hx : ρ.ev x = .pointer (some ⟨it, 0, none⟩)) (H : Hp E M L w) (hi : At L i (itc it q ck done)) (hq : w.heap[q]? = some (.map es.toArray ck)) (hm : MOk P kt es ck)
    (hd : ∀ e ∈ done, e ∈ es) (hnd : done.Nodup)
    (h1 : done.Perm es → ∀ w', Hp E M L w' → K (.tuple #[.bool false]) w')
    (h2 : ∀ e, e ∈ es → e ∉ done → ∀ w', Hp E M (L.set i (itc it q ck (done ++ [e]))) w' → K (.tuple #[.bool true, e.key, e.val]) w') :
    OpRuns P ρ ⟨dst, .next x false, ty, pos, aft, g⟩ w K := by
  refine .ofV (s := Instr.next (ρ.ev x) false ty) rfl ?_
  rw [hx]; unfold Instr.next
  have hit := H.own hi
  refine Runs.bind (Runs.getObj hit (by intros; simp) ?_)
  refine Runs.bind (Runs.getObj hq (by intros; simp) ?_)
  have hborn : ∀ a ∈ es, ∀ b ∈ es, a.born = b.born → a = b := by
    exact inj_of_nodup_map _ es hm.borns
  have hnone : (!(done.map (·.born)).toArray.isEmpty && !es.toArray.isEmpty && es.toArray.all (·.born ≥ ck)) = false := by
    rw [Bool.and_eq_false_iff]
    by_cases hes : es = []
    · subst hes; left; simp
    · right
      obtain ⟨e, he⟩ := List.exists_mem_of_ne_nil es hes
      rw [Bool.eq_false_iff]
      intro hall
      rw [Array.all_eq_true_iff_forall_mem] at hall
      have := hall e (by simpa using he)
      have h3 := hm.lt e he
      simp at this; omega
  simp only [hnone, Bool.false_eq_true, if_false]
  have hmem : ∀ e ∈ es, ((done.map (·.born)).toArray.contains e.born = true ↔ e ∈ done) := by
    intro e he
    rw [Array.contains_iff_mem]
    simp only [List.mem_toArray, List.mem_map]
    constructor
    · rintro ⟨d, hd', hb⟩; rw [← hborn d (hd d hd') e he hb]; exact hd'
    · intro h; exact ⟨e, h, rfl⟩
  -- the entries that are left
  have hleft : ((es.toArray.filter fun e => !(done.map (·.born)).toArray.contains e.born).filter fun e => decide (e.born < ck)).toList = es.filter fun e => !(done.map (·.born)).toArray.contains e.born := by
    simp only [Array.toList_filter, List.filter_filter]
    apply List.filter_congr
    intro e he
    have := hm.lt e he
    simp [this]
  have hnew : ((es.toArray.filter fun e => !(done.map (·.born)).toArray.contains e.born).filter fun e => decide (e.born ≥ ck)) = #[] := by
    apply Array.toList_inj.1
    simp only [Array.toList_filter, List.filter_filter]
    rw [List.filter_eq_nil_iff]
    intro e he
    have := hm.lt e (by simpa using he)
    simp; intro h; omega
  rw [hnew]
  generalize hlf : ((es.toArray.filter fun e => !(done.map (·.born)).toArray.contains e.born).filter fun e => decide (e.born < ck)) = left at hleft ⊢
  have hl : ∀ e, e ∈ left ↔ e ∈ es ∧ e ∉ done := by
    intro e
    rw [← Array.mem_toList_iff, hleft, List.mem_filter]
    constructor
    · rintro ⟨h, hb⟩; exact ⟨h, fun hd' => by rw [(hmem e h).2 hd'] at hb; cases hb⟩
    · rintro ⟨h, hn⟩
      refine ⟨h, ?_⟩
      cases hc : (done.map (·.born)).toArray.contains e.born with
      | true => exact absurd ((hmem e h).1 hc) hn
      | false => rfl
  have hstep : ∀ (wd : World), wd.heap = w.heap → wd.os = w.os → wd.tape = w.tape → wd.output = w.output → w.drawn ≤ wd.drawn → ∀ j, Runs P (match ((if left.isEmpty then #[none] else #[]) ++ (left ++ #[]).map some)[j % ((if left.isEmpty then #[none] else #[]) ++ (left ++ #[]).map some).size]? with
      | some (some e) => do
        setObj it (.mapIter (some q) ck ((done.map (·.born)).toArray.push e.born) ck)
        pure (.tuple #[.bool true, e.key, e.val])
      | some none => (pure (.tuple #[.bool false]) : Sem Value)
      | none => stuck "Next: no such candidate") wd K := by
    intro wd e1 e2 e3 e4 e5 j
    have Hd : Hp E M L wd := by
      obtain ⟨F, hs, h0⟩ := H
      exact ⟨F, hs, { os := e2.trans h0.os, tape := e3.trans h0.tape, output := e4.trans h0.output, drew := fun hd => Nat.le_trans (h0.drew hd) e5, size := by rw [e1]; exact h0.size, frame := by rw [e1]; exact h0.frame, le := h0.le, fresh := h0.fresh, ro := by rw [e1]; exact h0.ro, own := by rw [e1]; exact h0.own, nodup := h0.nodup, apart := h0.apart, new := h0.new }⟩
    by_cases hem : left.isEmpty = true
    · have hle : left = #[] := Array.isEmpty_iff.1 hem
      subst hle
      have : j % 1 = 0 := Nat.mod_one j
      simp [this]
      refine Runs.pure (h1 ?_ wd Hd)
      refine (List.perm_ext_iff_of_nodup hnd (nodup_of_map _ es hm.borns)).2 fun e => ⟨hd e, fun he => ?_⟩
      by_cases hde : e ∈ done
      · exact hde
      · have := (hl e).2 ⟨he, hde⟩; simp at this
    · have hem' : left.isEmpty = false := by simpa using hem
      have hsz : 0 < left.size := by
        rcases Nat.eq_zero_or_pos left.size with h | h
        · rw [Array.size_eq_zero_iff] at h; subst h; simp at hem
        · exact h
      simp only [hem', Bool.false_eq_true, if_false, Array.append_empty, Array.empty_append, Array.size_map, Array.getElem?_map]
      have hlt : j % left.size < left.size := Nat.mod_lt _ hsz
      rw [Array.getElem?_eq_getElem hlt]
      simp only [Option.map_some]
      have hmemL := (hl left[j % left.size]).1 (Array.getElem_mem hlt)
      have hitd : wd.heap[it]? = some (.mapIter (some q) ck (done.map (·.born)).toArray ck) := by rw [e1]; exact hit
      refine Runs.bind (Runs.setObj hitd (by intros; simp) ?_)
      refine Runs.pure (h2 _ hmemL.1 hmemL.2 _ ?_)
      have hpush : (done.map (·.born)).toArray.push left[j % left.size].born = ((done ++ [left[j % left.size]]).map (·.born)).toArray := by simp
      rw [hpush]
      refine Hp.turn Hd hi rfl rfl rfl rfl (by simp) ?_ ?_
      · have hlt' : it < wd.heap.size := by
          rcases Nat.lt_or_ge it wd.heap.size with h' | h'
          · exact h'
          · rw [Array.getElem?_eq_none h'] at hitd; cases hitd
        simp [hlt']
      · intro m hm'
        simp only [Array.getElem?_setIfInBounds, if_neg (Ne.symm hm')]
  refine Runs.bind ?_
  refine Runs.choose (fun hf => ?_) fun tp d hdd => ?_
  · have := hstep w rfl rfl rfl rfl (Nat.le_refl _) 0
    rw [Nat.zero_mod] at this
    exact this
  · exact hstep { w with drawn := d } rfl rfl rfl rfl hdd tp

/-- The key and the value where the iterator stands. -/
theorem r_entry {it : Nat} {done : List MapEntry} {e : MapEntry} (hx : ρ.ev x = .pointer (some ⟨it, 0, none⟩)) (H : Hp E M L w) (hi : At L i (itc it q ck (done ++ [e]))) (hq : w.heap[q]? = some (.map es.toArray ck)) (hm : MOk P kt es ck)
    (he : e ∈ es) (h : K (.tuple #[e.key, e.val]) w) : OpRuns P ρ ⟨dst, .entry x, ty, pos, aft, g⟩ w K := by
  refine .ofV (s := Instr.entry (ρ.ev x)) rfl ?_
  rw [hx]; unfold Instr.entry
  have hit := H.own hi
  refine Runs.bind (Runs.getObj hit (by intros; simp) ?_)
  have hback : ((done ++ [e]).map (·.born)).toArray.back? = some e.born := by simp
  simp only [hback]
  refine Runs.bind (Runs.getObj hq (by intros; simp) ?_)
  simp only [bne_self_eq_false, Bool.false_eq_true, if_false]
  have hfind : es.toArray.find? (fun x => x.born == e.born) = some e := by
    rw [List.find?_toArray]
    rw [List.find?_eq_some_iff_append]
    obtain ⟨A, B, hAB⟩ := List.append_of_mem he
    refine ⟨by simp, A, B, hAB, fun a ha => ?_⟩
    have hnb := hm.borns
    rw [hAB, List.map_append, List.nodup_append] at hnb
    have := hnb.2.2 a.born (List.mem_map_of_mem ha) e.born (by simp)
    simpa using this
  simp only [hfind]
  exact Runs.pure h

end
end Go.Sx
