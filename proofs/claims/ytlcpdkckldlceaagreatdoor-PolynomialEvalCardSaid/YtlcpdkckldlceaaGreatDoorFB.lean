/-
  More rules: drawn regions, entering and leaving, frozen rows, loops, map ranges, strings and bytes, rows handed in.
-/
import Derived.Test.YtlcpdkckldlceaaGreatDoorFA
import Derived.Orders
import Derived.Sort.Grow
import Derived.Deep.Draws
import Derived.Below
import Derived.Laws.BytesArg
import Derived.Lib.ConvBytes
namespace Go.Sx

/-! ### Equal slots -/
theorem OpRuns.congr {P : Program} {ρ ρ' : Env} {o : Oper} {w : World} {K : Value → World → Prop} (he : execOp ρ.ev o = execOp ρ'.ev o) (h : OpRuns P ρ o w K) : OpRuns P ρ' o w K := by
  unfold OpRuns at h ⊢
  rw [← he]; exact h

def noSel : Op → Bool
  | .select .. => false
  | _ => true

theorem exec_same {ops : Array Oper} {ρ ρ' : Env} {o : Oper} (hs : noSel o.op = true) (h : ∀ t ∈ o.looksAt ops, ρ.get t = ρ'.get t) : execOp ρ.ev o = execOp ρ'.ev o := by
  refine execOp_congr o (fun cs b e => by rw [e] at hs; cases hs) fun x hx => ?_
  cases x with
  | tmp t =>
    refine h t ?_
    unfold Oper.looksAt
    exact List.mem_append_left _ (List.mem_filterMap.2 ⟨.tmp t, by simpa using hx, rfl⟩)
  | _ => rfl

theorem wanted_same {ops : Array Oper} {ρ ρ' : Env} {o : Oper} (h : ∀ t ∈ o.looksAt ops, ρ.get t = ρ'.get t) : Region.wanted o (ρ.yielded ops) = Region.wanted o (ρ'.yielded ops) := by
  unfold Region.wanted
  cases hg : o.guard with
  | none => rfl
  | some p =>
    obtain ⟨j, want⟩ := p
    have : ρ.yielded ops j = ρ'.yielded ops j := by
      unfold Env.yielded
      cases hd : (ops[j]?).bind (·.dst) with
      | none => rfl
      | some d =>
        have := h d (by
          unfold Oper.looksAt
          refine List.mem_append_right _ ?_
          rw [hg]; simp [hd])
        simp only [this]
    simp only [this]

/-! ### What comes before what -/
def opD (ops : Array Oper) (i : Nat) : List Nat :=
  match ops[i]? with
  | some o => (o.after.toList.filter fun e => Region.binds .any e).map (·.on)
  | none => []

def readyL (ops : Array Oper) (D : List Nat) : List Nat :=
  (List.range ops.size).filter fun i => !D.contains i && (opD ops i).all fun d => D.contains d

def maskOf (acc : List Nat) (o : Oper) : Nat :=
  (o.after.toList.filter fun e => Region.binds .any e).foldl (fun s e => s ||| 2 ^ e.on ||| acc.getD e.on 0) 0
def masksGo : List Oper → List Nat → List Nat
  | [], acc => acc
  | o :: r, acc => masksGo r (acc ++ [maskOf acc o])
/-- Must j have been carried out when i is? -/
def pre (ops : Array Oper) (i j : Nat) : Bool := ((masksGo ops.toList []).getD i 0).testBit j

theorem foldl_bits (acc : List Nat) (l : List Edge) (j : Nat) : ∀ s : Nat, (l.foldl (fun s e => s ||| 2 ^ e.on ||| acc.getD e.on 0) s).testBit j = true → s.testBit j = true ∨ ∃ e ∈ l, j = e.on ∨ (acc.getD e.on 0).testBit j = true := by
  induction l with
  | nil => intro s h; exact .inl h
  | cons e l ih =>
    intro s h
    rw [List.foldl_cons] at h
    rcases ih _ h with h' | ⟨e', he', h'⟩
    · simp only [Nat.testBit_or, Bool.or_eq_true] at h'
      rcases h' with (h' | h') | h'
      · exact .inl h'
      · refine .inr ⟨e, by simp, .inl ?_⟩
        rw [Nat.testBit_two_pow] at h'
        exact (of_decide_eq_true h').symm
      · exact .inr ⟨e, by simp, .inr h'⟩
    · exact .inr ⟨e', List.mem_cons_of_mem _ he', h'⟩

theorem masksGo_sound {ops : Array Oper} {D : Nat → Bool} (hD : ∀ i, D i = true → ∀ d ∈ opD ops i, D d = true) :
    ∀ (l : List Oper) (acc : List Nat), l = ops.toList.drop acc.length → (∀ i, (∀ d ∈ opD ops i, D d = true) → ∀ j, (acc.getD i 0).testBit j = true → D j = true) →
      ∀ i, (∀ d ∈ opD ops i, D d = true) → ∀ j, ((masksGo l acc).getD i 0).testBit j = true → D j = true := by
  intro l
  induction l with
  | nil => intro acc _ hacc; exact hacc
  | cons o l ih =>
    intro acc hl hacc
    have ho : ops[acc.length]? = some o := by
      have : (ops.toList.drop acc.length)[0]? = some o := by rw [← hl]; rfl
      rw [List.getElem?_drop, Nat.add_zero] at this
      simpa using this
    refine ih (acc ++ [maskOf acc o]) ?_ fun i hi j hj => ?_
    · rw [List.length_append, List.length_singleton, ← List.drop_drop, ← hl]; rfl
    · by_cases hlt : i < acc.length
      · have : (acc ++ [maskOf acc o]).getD i 0 = acc.getD i 0 := by
          simp [List.getD_eq_getElem?_getD, List.getElem?_append_left hlt]
        rw [this] at hj
        exact hacc i hi j hj
      · by_cases he : i = acc.length
        · subst he
          have : (acc ++ [maskOf acc o]).getD acc.length 0 = maskOf acc o := by simp [List.getD_eq_getElem?_getD]
          rw [this] at hj
          rcases foldl_bits acc _ j 0 hj with h' | ⟨e, he, h'⟩
          · simp at h'
          · have hmem : e.on ∈ opD ops acc.length := by
              unfold opD; rw [ho]; exact List.mem_map_of_mem he
            have hDe := hi _ hmem
            rcases h' with rfl | h'
            · exact hDe
            · exact hacc e.on (hD e.on hDe) j h'
        · have : (acc ++ [maskOf acc o]).getD i 0 = 0 := by
            rw [List.getD_eq_getElem?_getD, List.getElem?_eq_none (by simp; omega)]; rfl
          rw [this] at hj; simp at hj

theorem pre_sound {ops : Array Oper} {D : Nat → Bool} (hD : ∀ i, D i = true → ∀ d ∈ opD ops i, D d = true) {i : Nat} (hi : ∀ d ∈ opD ops i, D d = true) {j : Nat} (h : pre ops i j = true) : D j = true :=
  masksGo_sound hD ops.toList [] (by simp) (fun i _ j hj => by simp at hj) i hi j h

/-- May the operation r be taken early? Its slot is its own, and whoever looks at it waits for it. -/
def readOk (ops : Array Oper) (r : Nat) : Bool :=
  match ops[r]? with
  | none => false
  | some o => noDefer o.op && noSel o.op && match o.dst with
    | none => true
    | some d => (List.range ops.size).all fun i => match ops[i]? with
      | none => true
      | some oi => if i == r then !(oi.looksAt ops).contains d else oi.dst != some d && (!(oi.looksAt ops).contains d || pre ops i r)

/-- Whoever looks at the slot that i writes waits for i, or i for it. -/
def spOk (ops : Array Oper) (i : Nat) : Bool :=
  match ops[i]? with
  | none => false
  | some o => noDefer o.op && noSel o.op && match o.dst with
    | none => true
    | some d => (List.range ops.size).all fun j => match ops[j]? with
      | none => true
      | some oj => j == i || !(oj.looksAt ops).contains d || pre ops j i || pre ops i j

/-- The edges point back. -/
def backward (ops : Array Oper) : Bool := (List.range ops.size).all fun i => (opD ops i).all fun d => Nat.blt d i

section
variable (P : Program) (X : FK) (LL : Option Code → Env → World → Prop) (k : List Item) (E : Ent) (ops : Array Oper)

/-- A read that gives v whenever it is made, from M on, while the chunks Lr stand. -/
def Stab (ρ : Env) (M : RO) (Lr : List HProp) (o : Oper) (v : Value) : Prop :=
  (Region.wanted o (ρ.yielded ops) = true ∧ ∀ M' L' w, M.le M' → Hp E M' (Lr ++ L') w → OpRuns P ρ o w fun v' w' => v' = v ∧ w' = w) ∨
  (Region.wanted o (ρ.yielded ops) = false ∧ v = undef)

/-- The tree of a region's orders. -/
def Ver : Nat → List Nat → Env → RO → List HProp → List HProp → Prop
  | 0, _, _, _, _, _ => False
  | f + 1, D, ρ, M, Lr, Lx =>
    ((List.range ops.size).all (fun i => D.contains i) = true ∧ ∀ w, Hp E M (Lr ++ Lx) w → Goes P X LL k ρ w) ∨
    (∃ r o v, ops[r]? = some o ∧ D.contains r = false ∧ (opD ops r).all (fun d => D.contains d) = true ∧ readOk ops r = true ∧ dstOk X.n o.dst = true ∧ Stab P E ops ρ M Lr o v ∧ Ver f (r :: D) (ρ.put o.dst v) M Lr Lx) ∨
    (readyL ops D ≠ [] ∧ ∀ i ∈ readyL ops D, ∃ o, ops[i]? = some o ∧ spOk ops i = true ∧ dstOk X.n o.dst = true ∧
      ((Region.wanted o (ρ.yielded ops) = true ∧ ∀ w, Hp E M (Lr ++ Lx) w → OpRuns P ρ o w fun v w' => ∃ M' Lr' Lx', M.le M' ∧ (Lr' = Lr ∨ D.all (fun d => pre ops i d) = true) ∧ Hp E M' (Lr' ++ Lx') w' ∧ Ver f (i :: D) (ρ.put o.dst v) M' Lr' Lx') ∨
       (Region.wanted o (ρ.yielded ops) = false ∧ Ver f (i :: D) (ρ.put o.dst undef) M Lr Lx)))

structure SimR (A : Nat → Bool) (D : List Nat) (ρa ρv : Env) (M : RO) (Lr : List HProp) : Prop where
  sub : ∀ i, A i = true → i ∈ D
  closedA : ∀ i, A i = true → ∀ d ∈ opD ops i, A d = true
  closedD : ∀ i ∈ D, ∀ d ∈ opD ops i, d ∈ D
  ds : ρa.ds = ρv.ds
  slots : ∀ t, (∀ r ∈ D, A r = false → (ops[r]?).bind (·.dst) ≠ some t) → ρa.get t = ρv.get t
  pend : ∀ r ∈ D, A r = false → ∃ o ρr v, ops[r]? = some o ∧ readOk ops r = true ∧ dstOk X.n o.dst = true ∧ (∀ t ∈ o.looksAt ops, ρv.get t = ρr.get t) ∧ Stab P E ops ρr M Lr o v ∧ (∀ d, o.dst = some d → ρv.get d = v)

end

section
variable {P : Program} {X : FK} {LL : Option Code → Env → World → Prop} {k : List Item} {E : Ent} {ops : Array Oper}

theorem readOk_spec {r : Nat} {o : Oper} (ho : ops[r]? = some o) (h : readOk ops r = true) : noDefer o.op = true ∧ noSel o.op = true ∧ ∀ d, o.dst = some d → d ∉ o.looksAt ops ∧
    ∀ i oi, ops[i]? = some oi → i ≠ r → oi.dst ≠ some d ∧ (d ∈ oi.looksAt ops → pre ops i r = true) := by
  unfold readOk at h
  rw [ho] at h
  simp only [Bool.and_eq_true] at h
  refine ⟨h.1.1, h.1.2, fun d hd => ?_⟩
  have h2 := h.2
  rw [hd] at h2
  simp only [List.all_eq_true, List.mem_range] at h2
  have hlt : ∀ {i : Nat} {oi : Oper}, ops[i]? = some oi → i < ops.size := by
    intro i oi hi
    rcases Nat.lt_or_ge i ops.size with h' | h'
    · exact h'
    · rw [Array.getElem?_eq_none h'] at hi; cases hi
  constructor
  · have := h2 r (hlt ho)
    rw [ho] at this
    simpa using this
  · intro i oi hi hne
    have := h2 i (hlt hi)
    rw [hi] at this
    simp only [beq_iff_eq, if_neg hne, Bool.and_eq_true, bne_iff_ne, Bool.or_eq_true] at this
    refine ⟨this.1, fun hm => ?_⟩
    rcases this.2 with h' | h'
    · simp at h'; exact absurd hm h'
    · exact h'

theorem spOk_spec {i : Nat} {o : Oper} (ho : ops[i]? = some o) (h : spOk ops i = true) : noDefer o.op = true ∧ noSel o.op = true ∧ ∀ d, o.dst = some d →
    ∀ j oj, ops[j]? = some oj → j ≠ i → d ∈ oj.looksAt ops → pre ops j i = true ∨ pre ops i j = true := by
  unfold spOk at h
  rw [ho] at h
  simp only [Bool.and_eq_true] at h
  refine ⟨h.1.1, h.1.2, fun d hd j oj hj hne hm => ?_⟩
  have h2 := h.2
  rw [hd] at h2
  simp only [List.all_eq_true, List.mem_range] at h2
  have hlt : j < ops.size := by
    rcases Nat.lt_or_ge j ops.size with h' | h'
    · exact h'
    · rw [Array.getElem?_eq_none h'] at hj; cases hj
  have := h2 j hlt
  rw [hj] at this
  simp only [Bool.or_eq_true, beq_iff_eq, Bool.not_eq_true'] at this
  rcases this with ((h' | h') | h') | h'
  · exact absurd h' hne
  · simp at h'; exact absurd hm h'
  · exact .inl h'
  · exact .inr h'

theorem put_get (ρ : Env) (dst : Option Tmp) (v : Value) (t : Nat) : (ρ.put dst v).get t = if dst = some t then v else ρ.get t := by
  cases dst with
  | none => simp [Env.put]
  | some d =>
    simp only [Env.put, Env.get_set, Option.some.injEq]

theorem put_ds (ρ : Env) (dst : Option Tmp) (v : Value) : (ρ.put dst v).ds = ρ.ds := by
  cases dst <;> rfl

/-- The slots that a ready operation looks at are the tree's. -/
theorem SimR.looks {A : Nat → Bool} {D : List Nat} {ρa ρv : Env} {M : RO} {Lr : List HProp} (h : SimR P X E ops A D ρa ρv M Lr) {i : Nat} {o : Oper} (ho : ops[i]? = some o) (hA : ∀ d ∈ opD ops i, A d = true) :
    ∀ t ∈ o.looksAt ops, ρa.get t = ρv.get t := by
  intro t ht
  refine h.slots t fun r hr hAr hd => ?_
  obtain ⟨or, ρr, v, hor, hok, _⟩ := h.pend r hr hAr
  rw [hor] at hd
  simp only [Option.bind_some] at hd
  obtain ⟨_, _, hspec⟩ := readOk_spec hor hok
  obtain ⟨hself, hoth⟩ := hspec t hd
  by_cases hir : i = r
  · subst hir; rw [hor] at ho; cases ho; exact hself ht
  · have hp := (hoth i o ho hir).2 ht
    have := pre_sound h.closedA hA hp
    rw [hAr] at this; cases this

theorem contains_mem {D : List Nat} {i : Nat} : D.contains i = true ↔ i ∈ D := by simp

/-- One operation of the schedule, seen from the tree. -/
theorem Ver.step : ∀ (f : Nat) (A : Nat → Bool) (D : List Nat) (ρa ρv : Env) (M : RO) (Lr Lx : List HProp) (w : World), SimR P X E ops A D ρa ρv M Lr → Hp E M (Lr ++ Lx) w → Ver P X LL k E ops f D ρv M Lr Lx →
    ∀ (i : Nat) (o : Oper), ops[i]? = some o → A i = false → (∀ d ∈ opD ops i, A d = true) →
      noDefer o.op = true ∧ dstOk X.n o.dst = true ∧
      (Region.wanted o (ρa.yielded ops) = true → OpRuns P ρa o w fun v w' => ∃ f' D' ρv' M' Lr' Lx', SimR P X E ops (fun x => A x || x == i) D' (ρa.put o.dst v) ρv' M' Lr' ∧ Hp E M' (Lr' ++ Lx') w' ∧ Ver P X LL k E ops f' D' ρv' M' Lr' Lx') ∧
      (Region.wanted o (ρa.yielded ops) = false → ∃ f' D' ρv' M' Lr' Lx', SimR P X E ops (fun x => A x || x == i) D' (ρa.put o.dst undef) ρv' M' Lr' ∧ Hp E M' (Lr' ++ Lx') w ∧ Ver P X LL k E ops f' D' ρv' M' Lr' Lx') := by
  intro f
  induction f with
  | zero => intro A D ρa ρv M Lr Lx w _ _ hv; exact hv.elim
  | succ f ih =>
    intro A D ρa ρv M Lr Lx w hs hH hv i o ho hAi hdeps
    have hilt : i < ops.size := by
      rcases Nat.lt_or_ge i ops.size with h' | h'
      · exact h'
      · rw [Array.getElem?_eq_none h'] at ho; cases ho
    have hlooks := hs.looks ho hdeps
    by_cases hiD : i ∈ D
    · -- a read that the tree has made already
      obtain ⟨o', ρr, v, ho', hok, hdst, hr, hstab, hval⟩ := hs.pend i hiD hAi
      rw [ho] at ho'; cases ho'
      obtain ⟨hnd, hns, hspec⟩ := readOk_spec ho hok
      have hag : ∀ t ∈ o.looksAt ops, ρr.get t = ρa.get t := fun t ht => by rw [hlooks t ht, hr t ht]
      have hexec : execOp ρr.ev o = execOp ρa.ev o := exec_same hns hag
      have hwant := wanted_same (o := o) hag
      have hnext : ∀ w', Hp E M (Lr ++ Lx) w' → ∃ f' D' ρv' M' Lr' Lx', SimR P X E ops (fun x => A x || x == i) D' (ρa.put o.dst v) ρv' M' Lr' ∧ Hp E M' (Lr' ++ Lx') w' ∧ Ver P X LL k E ops f' D' ρv' M' Lr' Lx' := by
        intro w' hw'
        refine ⟨f + 1, D, ρv, M, Lr, Lx, ⟨?_, ?_, hs.closedD, by rw [put_ds]; exact hs.ds, ?_, ?_⟩, hw', hv⟩
        · intro x hx
          simp only [Bool.or_eq_true, beq_iff_eq] at hx
          rcases hx with hx | rfl
          · exact hs.sub x hx
          · exact hiD
        · intro x hx d hd
          simp only [Bool.or_eq_true, beq_iff_eq] at hx ⊢
          rcases hx with hx | rfl
          · exact .inl (hs.closedA x hx d hd)
          · exact .inl (hdeps d hd)
        · intro t ht
          rw [put_get]
          by_cases hd : o.dst = some t
          · rw [if_pos hd]; exact (hval t hd).symm
          · rw [if_neg hd]
            refine hs.slots t fun r hr' hAr => ?_
            by_cases hri : r = i
            · subst hri; rw [ho]; simpa using hd
            · exact ht r hr' (by simp [hAr, hri])
        · intro r hr' hAr
          simp only [Bool.or_eq_false_iff] at hAr
          exact hs.pend r hr' hAr.1
      refine ⟨hnd, hdst, fun hw => ?_, fun hw => ?_⟩
      · rcases hstab with ⟨_, hrun⟩ | ⟨hno, _⟩
        · refine ((hrun M Lx w (.refl M) hH).congr hexec).mono ?_
          rintro v' w' ⟨rfl, rfl⟩
          exact hnext _ hH
        · rw [← hwant, hno] at hw; cases hw
      · rcases hstab with ⟨hyes, _⟩ | ⟨_, rfl⟩
        · rw [← hwant, hyes] at hw; cases hw
        · exact hnext w hH
    · rcases hv with ⟨hall, _⟩ | ⟨r, or, v, hor, hrD, hrdeps, hok, hdst, hstab, hver⟩ | ⟨hne, hsp⟩
      · -- the tree is at its end: i would be in D
        rw [List.all_eq_true] at hall
        exact absurd (contains_mem.1 (hall i (List.mem_range.2 hilt))) hiD
      · -- the tree makes one more read
        have hrD' : r ∉ D := fun h => by rw [contains_mem.2 h] at hrD; cases hrD
        rw [List.all_eq_true] at hrdeps
        have hrdeps' : ∀ d ∈ opD ops r, d ∈ D := fun d hd => contains_mem.1 (hrdeps d hd)
        have hAr : A r = false := by
          cases h : A r with
          | false => rfl
          | true => exact absurd (hs.sub r h) hrD'
        obtain ⟨hnd, hns, hspec⟩ := readOk_spec hor hok
        refine ih A (r :: D) ρa (ρv.put or.dst v) M Lr Lx w ⟨?_, hs.closedA, ?_, by rw [put_ds]; exact hs.ds, ?_, ?_⟩ hH hver i o ho hAi hdeps
        · intro x hx; exact List.mem_cons_of_mem _ (hs.sub x hx)
        · intro x hx d hd
          rcases List.mem_cons.1 hx with rfl | hx
          · exact List.mem_cons_of_mem _ (hrdeps' d hd)
          · exact List.mem_cons_of_mem _ (hs.closedD x hx d hd)
        · intro t ht
          have h1 := ht r (by simp) hAr
          rw [hor] at h1
          simp only [Option.bind_some] at h1
          rw [put_get, if_neg h1]
          exact hs.slots t fun r' hr' hA' => ht r' (List.mem_cons_of_mem _ hr') hA'
        · intro r' hr' hA'
          rcases List.mem_cons.1 hr' with rfl | hr'
          · refine ⟨or, ρv, v, hor, hok, hdst, fun t ht => ?_, hstab, fun d hd => ?_⟩
            · rw [put_get, if_neg]
              intro hd; exact (hspec t hd).1 ht
            · rw [put_get, if_pos hd]
          · obtain ⟨o', ρr, v', ho', hok', hdst', hr2, hstab', hval'⟩ := hs.pend r' hr' hA'
            have hne : r' ≠ r := fun e => hrD' (e ▸ hr')
            refine ⟨o', ρr, v', ho', hok', hdst', fun t ht => ?_, hstab', fun d hd => ?_⟩
            · rw [put_get, if_neg, hr2 t ht]
              intro hd
              have hp := ((hspec t hd).2 r' o' ho' hne).2 ht
              -- r would have to be made before r', which is in D
              have hDc : ∀ x, (decide (x ∈ D)) = true → ∀ d ∈ opD ops x, (decide (d ∈ D)) = true := fun x hx d hd => decide_eq_true (hs.closedD x (of_decide_eq_true hx) d hd)
              have := pre_sound (D := fun x => decide (x ∈ D)) hDc (i := r') (fun d hd => decide_eq_true (hs.closedD r' hr' d hd)) hp
              exact hrD' (of_decide_eq_true this)
            · rw [put_get, if_neg, hval' d hd]
              intro hd'
              exact ((hspec d hd').2 r' o' ho' hne).1 hd
      · -- the tree parts on what comes next
        have hir : i ∈ readyL ops D := by
          unfold readyL
          rw [List.mem_filter]
          refine ⟨List.mem_range.2 hilt, ?_⟩
          simp only [Bool.and_eq_true, Bool.not_eq_true', List.all_eq_true]
          refine ⟨?_, fun d hd => contains_mem.2 (hs.sub d (hdeps d hd))⟩
          cases h : D.contains i with
          | false => rfl
          | true => exact absurd (contains_mem.1 h) hiD
        obtain ⟨o', ho', hok, hdst, hrun⟩ := hsp i hir
        rw [ho] at ho'; cases ho'
        obtain ⟨hnd, hns, hspec⟩ := spOk_spec ho hok
        have hag : ∀ t ∈ o.looksAt ops, ρv.get t = ρa.get t := fun t ht => (hlooks t ht).symm
        have hexec : execOp ρv.ev o = execOp ρa.ev o := exec_same hns hag
        have hwant := wanted_same (o := o) hag
        have hnext : ∀ (v : Value) (M' : RO) (Lr' : List HProp), M.le M' → (Lr' = Lr ∨ D.all (fun d => pre ops i d) = true) → SimR P X E ops (fun x => A x || x == i) (i :: D) (ρa.put o.dst v) (ρv.put o.dst v) M' Lr' := by
          intro v M' Lr' hM hLr
          have hpre : ∀ r ∈ D, A r = false → pre ops i r = false := fun r _ hAr => by
            cases h : pre ops i r with
            | false => rfl
            | true => have := pre_sound hs.closedA hdeps h; rw [hAr] at this; cases this
          refine ⟨?_, ?_, ?_, by rw [put_ds, put_ds]; exact hs.ds, ?_, ?_⟩
          · intro x hx
            simp only [Bool.or_eq_true, beq_iff_eq] at hx
            rcases hx with hx | rfl
            · exact List.mem_cons_of_mem _ (hs.sub x hx)
            · simp
          · intro x hx d hd
            simp only [Bool.or_eq_true, beq_iff_eq] at hx ⊢
            rcases hx with hx | rfl
            · exact .inl (hs.closedA x hx d hd)
            · exact .inl (hdeps d hd)
          · intro x hx d hd
            rcases List.mem_cons.1 hx with rfl | hx
            · exact List.mem_cons_of_mem _ (hs.sub d (hdeps d hd))
            · exact List.mem_cons_of_mem _ (hs.closedD x hx d hd)
          · intro t ht
            rw [put_get, put_get]
            by_cases hd : o.dst = some t
            · rw [if_pos hd, if_pos hd]
            · rw [if_neg hd, if_neg hd]
              exact hs.slots t fun r hr hAr => ht r (List.mem_cons_of_mem _ hr) (by
                have : r ≠ i := fun e => hiD (e ▸ hr)
                simp [hAr, this])
          · intro r hr hAr
            simp only [Bool.or_eq_false_iff, beq_eq_false_iff_ne] at hAr
            rcases List.mem_cons.1 hr with rfl | hr
            · exact absurd rfl hAr.2
            obtain ⟨o', ρr, v', ho', hok', hdst', hr2, hstab', hval'⟩ := hs.pend r hr hAr.1
            have hLr' : Lr' = Lr := by
              rcases hLr with h | h
              · exact h
              · rw [List.all_eq_true] at h
                have := hpre r hr hAr.1
                rw [h r hr] at this; cases this
            subst hLr'
            obtain ⟨_, _, hspec'⟩ := readOk_spec ho' hok'
            refine ⟨o', ρr, v', ho', hok', hdst', fun t ht => ?_, ?_, fun d hd => ?_⟩
            · rw [put_get, if_neg, hr2 t ht]
              intro hd
              rcases hspec t hd r o' ho' hAr.2 ht with hp | hp
              · have hDc : ∀ x, (decide (x ∈ D)) = true → ∀ d ∈ opD ops x, (decide (d ∈ D)) = true := fun x hx d hd => decide_eq_true (hs.closedD x (of_decide_eq_true hx) d hd)
                have := pre_sound (D := fun x => decide (x ∈ D)) hDc (i := r) (fun d hd => decide_eq_true (hs.closedD r hr d hd)) hp
                exact hiD (of_decide_eq_true this)
              · rw [hpre r hr hAr.1] at hp; cases hp
            · rcases hstab' with ⟨h1, h2⟩ | h
              · exact .inl ⟨h1, fun M'' L' w hM'' => h2 M'' L' w (hM.trans hM'')⟩
              · exact .inr h
            · rw [put_get, if_neg, hval' d hd]
              intro hd'
              exact ((hspec' d hd).2 i o ho (Ne.symm hAr.2)).1 hd'
        refine ⟨hnd, hdst, fun hw => ?_, fun hw => ?_⟩
        · rcases hrun with ⟨_, hrun⟩ | ⟨hno, _⟩
          · refine ((hrun w hH).congr hexec).mono ?_
            rintro v w' ⟨M', Lr', Lx', hM, hLr, hH', hver⟩
            exact ⟨f, i :: D, _, M', Lr', Lx', hnext v M' Lr' hM hLr, hH', hver⟩
          · rw [← hwant, hno] at hw; cases hw
        · rcases hrun with ⟨hyes, _⟩ | ⟨_, hver⟩
          · rw [← hwant, hyes] at hw; cases hw
          · exact ⟨f, i :: D, _, M, Lr, Lx, hnext undef M Lr (.refl M) (.inl rfl), hH, hver⟩

/-- Behind all operations. -/
theorem Ver.atEnd : ∀ (f : Nat) (A : Nat → Bool) (D : List Nat) (ρa ρv : Env) (M : RO) (Lr Lx : List HProp) (w : World), SimR P X E ops A D ρa ρv M Lr → Hp E M (Lr ++ Lx) w → Ver P X LL k E ops f D ρv M Lr Lx →
    (∀ i, i < ops.size → A i = true) → Goes P X LL k ρa w := by
  intro f A D ρa ρv M Lr Lx w hs hH hv hall
  have hlt : ∀ {i : Nat} {oi : Oper}, ops[i]? = some oi → i < ops.size := by
    intro i oi hi
    rcases Nat.lt_or_ge i ops.size with h' | h'
    · exact h'
    · rw [Array.getElem?_eq_none h'] at hi; cases hi
  cases f with
  | zero => exact hv.elim
  | succ f =>
    rcases hv with ⟨_, hgo⟩ | ⟨r, or, v, hor, hrD, _⟩ | ⟨hne, _⟩
    · refine (hgo w hH).congr (fun t => (hs.slots t fun r hr hAr => ?_).symm) hs.ds.symm
      obtain ⟨o, _, _, ho, _⟩ := hs.pend r hr hAr
      rw [hall r (hlt ho)] at hAr; cases hAr
    · rw [contains_mem.2 (hs.sub r (hall r (hlt hor)))] at hrD; cases hrD
    · refine absurd ?_ hne
      unfold readyL
      rw [List.filter_eq_nil_iff]
      intro i hi
      rw [contains_mem.2 (hs.sub i (hall i (List.mem_range.1 hi)))]
      simp

theorem Ver.sched (hback : backward ops = true) : ∀ (fuel t : Nat) (listed : Array Bool), listed.size = ops.size → (listed.toList.filter (!·)).length = fuel → ∀ (f : Nat) (D : List Nat) (ρa ρv : Env) (M : RO) (Lr Lx : List HProp) (w : World),
    SimR P X E ops (fun i => listed.getD i false) D ρa ρv M Lr → Hp E M (Lr ++ Lx) w → Ver P X LL k E ops f D ρv M Lr Lx →
    Goes P X LL (.inRegion ops (Region.linearise.go .any ops fuel t listed []) :: k) ρa w := by
  intro fuel
  induction fuel with
  | zero =>
    intro t listed hsz hcnt f D ρa ρv M Lr Lx w hs hH hv
    simp only [Region.linearise.go, List.reverse_nil]
    refine .opsEnd (Ver.atEnd f _ D ρa ρv M Lr Lx w hs hH hv fun i hi => ?_)
    have : ∀ b ∈ listed.toList, b = true := by
      intro b hb
      have h0 := List.eq_nil_of_length_eq_zero hcnt
      rw [List.filter_eq_nil_iff] at h0
      simpa using h0 b hb
    have hi' : i < listed.size := by omega
    have hg : listed.getD i false = listed[i] := by simp [Array.getD, hi']
    show listed.getD i false = true
    rw [hg]
    exact this _ (by simp)
  | succ fuel ih =>
    intro t listed hsz hcnt f D ρa ρv M Lr Lx w hs hH hv
    have hunfold : Region.linearise.go .any ops (fuel + 1) t listed [] = match (Region.ready .any ops listed)[t % (Region.ready .any ops listed).length]? with
      | some i => Region.linearise.go .any ops fuel (t / (Region.ready .any ops listed).length) (listed.setIfInBounds i true) [i]
      | none => [] := rfl
    rw [hunfold]
    have hmem : ∀ j, j ∈ Region.ready .any ops listed → ∃ o, ops[j]? = some o ∧ listed.getD j false = false ∧ ∀ d ∈ opD ops j, listed.getD d false = true := by
      intro j hj
      unfold Region.ready at hj
      rw [List.mem_filter] at hj
      obtain ⟨hjr, hj2⟩ := hj
      have hjlt : j < ops.size := List.mem_range.1 hjr
      refine ⟨ops[j], Array.getElem?_eq_getElem hjlt, ?_, ?_⟩
      · simp only [Bool.and_eq_true, Bool.not_eq_true'] at hj2
        have h1 := hj2.1
        have hjl : j < listed.size := by omega
        simpa [Array.getD, hjl] using h1
      · intro d hd
        simp only [Bool.and_eq_true] at hj2
        have h2 := hj2.2
        rw [Array.getElem?_eq_getElem hjlt] at h2
        simp only [Option.map_some, Option.getD_some, Array.all_eq_true_iff_forall_mem] at h2
        unfold opD at hd
        rw [Array.getElem?_eq_getElem hjlt] at hd
        obtain ⟨e, he, rfl⟩ := List.mem_map.1 hd
        rw [List.mem_filter] at he
        have := h2 e (by simpa using he.1)
        simp only [Bool.or_eq_true, Bool.not_eq_true'] at this
        rcases this with h' | h'
        · rw [he.2] at h'; cases h'
        · exact h'
    cases hi : (Region.ready .any ops listed)[t % (Region.ready .any ops listed).length]? with
    | none =>
      -- some operation is left, and the least of those is ready
      exfalso
      have hnil : Region.ready .any ops listed = [] := by
        cases hr : Region.ready .any ops listed with
        | nil => rfl
        | cons x xs =>
          rw [hr] at hi
          have hlt : t % (x :: xs).length < (x :: xs).length := Nat.mod_lt _ (by simp)
          rw [List.getElem?_eq_getElem hlt] at hi; cases hi
      have hex : ∃ i, i < ops.size ∧ listed.getD i false = false := by
        have : (listed.toList.filter (!·)) ≠ [] := by intro e; rw [e] at hcnt; simp at hcnt
        obtain ⟨b, hb⟩ := List.exists_mem_of_ne_nil _ this
        rw [List.mem_filter] at hb
        obtain ⟨i, hi, hbi⟩ := List.mem_iff_getElem.1 hb.1
        have hi' : i < listed.size := by simpa using hi
        refine ⟨i, by omega, ?_⟩
        have : listed[i] = b := by simpa using hbi
        have hbf : b = false := by simpa using hb.2
        simp [Array.getD, hi', this, hbf]
      have hleast : ∀ m i, i < m → i < ops.size → listed.getD i false = false → False := by
        intro m
        induction m with
        | zero => intro i h; omega
        | succ m ihm =>
          intro i him hilt hif
          have hready : i ∈ Region.ready .any ops listed := by
            unfold Region.ready
            rw [List.mem_filter]
            refine ⟨List.mem_range.2 hilt, ?_⟩
            have hil : i < listed.size := by omega
            have h1 : listed.getD i true = false := by simpa [Array.getD, hil] using hif
            rw [h1, Array.getElem?_eq_getElem hilt]
            simp only [Bool.not_false, Option.map_some, Option.getD_some, Bool.true_and, Array.all_eq_true_iff_forall_mem]
            intro e he
            cases hb : Region.binds .any e with
            | false => simp
            | true =>
              have hd : e.on ∈ opD ops i := by
                unfold opD; rw [Array.getElem?_eq_getElem hilt]
                exact List.mem_map_of_mem (List.mem_filter.2 ⟨by simpa using he, hb⟩)
              have hlt : e.on < i := by
                unfold backward at hback
                rw [List.all_eq_true] at hback
                have := hback i (List.mem_range.2 hilt)
                rw [List.all_eq_true] at this
                have := this e.on hd
                simpa [Nat.blt_eq] using this
              cases hl : listed.getD e.on false with
              | true => rfl
              | false => exact (ihm e.on (by omega) (by omega) hl).elim
          rw [hnil] at hready; cases hready
      obtain ⟨i, hi1, hi2⟩ := hex
      exact hleast (i + 1) i (by omega) hi1 hi2
    | some i =>
      obtain ⟨o, ho, hlf, hdeps⟩ := hmem i (List.mem_of_getElem? hi)
      have hilt : i < ops.size := by
        rcases Nat.lt_or_ge i ops.size with h' | h'
        · exact h'
        · rw [Array.getElem?_eq_none h'] at ho; cases ho
      have hil : i < listed.size := by omega
      simp only []
      rw [linearise_go_acc, List.reverse_singleton, List.singleton_append]
      obtain ⟨hnd, hdst, hyes, hno⟩ := Ver.step f _ D ρa ρv M Lr Lx w hs hH hv i o ho hlf hdeps
      have hset : (fun x => listed.getD x false || x == i) = fun x => (listed.setIfInBounds i true).getD x false := by
        funext x
        by_cases hx : x = i
        · subst hx; simp [Array.getD, hil]
        · have hne : (x == i) = false := by simpa using hx
          simp only [hne, Bool.or_false, Array.getD_eq_getD_getElem?, Array.getElem?_setIfInBounds, if_neg (Ne.symm hx)]
      have hcnt' : ((listed.setIfInBounds i true).toList.filter (!·)).length = fuel := by
        have hli : listed[i] = false := by simpa [Array.getD, hil] using hlf
        have h1 : listed.toList = listed.toList.take i ++ listed[i] :: listed.toList.drop (i + 1) := by
          have hi'' : i < listed.toList.length := by simpa using hil
          have hd := List.drop_eq_getElem_cons hi''
          rw [show listed[i] = listed.toList[i] from by simp, ← hd, List.take_append_drop]
        have h2 : (listed.setIfInBounds i true).toList = listed.toList.take i ++ true :: listed.toList.drop (i + 1) := by
          rw [Array.toList_setIfInBounds, List.set_eq_take_append_cons_drop, if_pos (by simpa using hil)]
        rw [h1, hli] at hcnt
        rw [h2]
        simp only [List.filter_append, List.filter_cons, Bool.not_false, if_true, Bool.not_true, Bool.false_eq_true, if_false, List.length_append, List.length_cons] at hcnt ⊢
        omega
      cases hw : Region.wanted o (ρa.yielded ops) with
      | true =>
        refine .op ho (noDefer_ne hnd) hdst hw ((hyes hw).mono ?_)
        rintro v w' ⟨f', D', ρv', M', Lr', Lx', hs', hH', hv'⟩
        rw [hset] at hs'
        exact ih _ _ (by simpa using hsz) hcnt' f' D' _ ρv' M' Lr' Lx' w' hs' hH' hv'
      | false =>
        refine .opSkip ho hdst hw ?_
        obtain ⟨f', D', ρv', M', Lr', Lx', hs', hH', hv'⟩ := hno hw
        rw [hset] at hs'
        exact ih _ _ (by simpa using hsz) hcnt' f' D' _ ρv' M' Lr' Lx' w hs' hH' hv'

/-- A region that draws its order. -/
theorem Goes.regionD {id : Nat} {ρ : Env} {w : World} {M : RO} {Lr Lx : List HProp} (hm : P.follows .mixedOrders = true) (hback : backward ops = true) (f : Nat) (hH : Hp E M (Lr ++ Lx) w)
    (hv : Ver P X LL k E ops f [] ρ M Lr Lx) : Goes P X LL (.code (.region id ops true) :: k) ρ w := by
  have hd : ∀ d, w.drawn ≤ d → Hp E M (Lr ++ Lx) { w with drawn := d } := fun d hdd => hH.draw d hdd
  refine .of_step (ρ' := ρ) (w' := { w with drawn := w.drawn + 1 }) (todo' := .inRegion ops (Region.schedule (P.follows .mixedOrders) ops (w.tape w.drawn (.order X.f id))) :: k)
    (fun a _ ha => ⟨a, ha, step_lone_go (by simp [stepG, stepG.exec, FK.fr, choose, Sem.run, Question.forced, Question.cut])⟩) ?_
  have : Region.schedule (P.follows .mixedOrders) ops (w.tape w.drawn (.order X.f id)) = Region.linearise.go .any ops ops.size (w.tape w.drawn (.order X.f id)) (Array.replicate ops.size false) [] := by
    rw [hm]; rfl
  rw [this]
  refine Ver.sched hback ops.size _ _ (by simp) (by simp) f [] ρ ρ M Lr Lx _ ⟨?_, ?_, ?_, rfl, fun _ _ => rfl, ?_⟩ (hd _ (Nat.le_succ _)) hv
  · intro i hi; simp [Array.getD] at hi
  · intro i hi; simp [Array.getD] at hi
  · intro i hi; cases hi
  · intro r hr; cases hr

/-! How a tree is written. -/
section
variable {f : Nat} {D : List Nat} {ρ : Env} {M : RO} {Lr Lx : List HProp}

theorem Ver.fin (hall : (List.range ops.size).all (fun i => D.contains i) = true) (h : ∀ w, Hp E M (Lr ++ Lx) w → Goes P X LL k ρ w) : Ver P X LL k E ops (f + 1) D ρ M Lr Lx := .inl ⟨hall, h⟩

def rdChk (X : FK) (ops : Array Oper) (D : List Nat) (r : Nat) (dst : Option Tmp) : Bool := !D.contains r && (opD ops r).all (fun d => D.contains d) && readOk ops r && dstOk X.n dst
theorem rdChk_spec {r : Nat} {dst : Option Tmp} (h : rdChk X ops D r dst = true) : D.contains r = false ∧ (opD ops r).all (fun d => D.contains d) = true ∧ readOk ops r = true ∧ dstOk X.n dst = true := by
  unfold rdChk at h
  simp only [Bool.and_eq_true, Bool.not_eq_true'] at h
  exact ⟨h.1.1.1, h.1.1.2, h.1.2, h.2⟩

/-- A read. -/
theorem Ver.read {dst : Option Tmp} {op : Op} {ty : TypeId} {pos : String} {aft : Array Edge} {v : Value} (r : Nat) (ho : ops[r]? = some ⟨dst, op, ty, pos, aft, none⟩) (hc : rdChk X ops D r dst = true)
    (hr : ∀ M' L' w, M.le M' → Hp E M' (Lr ++ L') w → OpRuns P ρ ⟨dst, op, ty, pos, aft, none⟩ w fun v' w' => v' = v ∧ w' = w) (h : Ver P X LL k E ops f (r :: D) (ρ.put dst v) M Lr Lx) :
    Ver P X LL k E ops (f + 1) D ρ M Lr Lx :=
  let ⟨h1, h2, h3, h4⟩ := rdChk_spec hc
  .inr (.inl ⟨r, _, v, ho, h1, h2, h3, h4, .inl ⟨rfl, hr⟩, h⟩)
theorem Ver.readY {dst : Option Tmp} {op : Op} {ty : TypeId} {pos : String} {aft : Array Edge} {v : Value} {j : Nat} {want : Bool} (r : Nat) (ho : ops[r]? = some ⟨dst, op, ty, pos, aft, some (j, want)⟩) (hc : rdChk X ops D r dst = true)
    (hy : ρ.yielded ops j = some want)
    (hr : ∀ M' L' w, M.le M' → Hp E M' (Lr ++ L') w → OpRuns P ρ ⟨dst, op, ty, pos, aft, some (j, want)⟩ w fun v' w' => v' = v ∧ w' = w) (h : Ver P X LL k E ops f (r :: D) (ρ.put dst v) M Lr Lx) :
    Ver P X LL k E ops (f + 1) D ρ M Lr Lx :=
  let ⟨h1, h2, h3, h4⟩ := rdChk_spec hc
  .inr (.inl ⟨r, _, v, ho, h1, h2, h3, h4, .inl ⟨by simp [Region.wanted, hy], hr⟩, h⟩)
theorem Ver.readN {dst : Option Tmp} {op : Op} {ty : TypeId} {pos : String} {aft : Array Edge} {j : Nat} {want : Bool} (r : Nat) (ho : ops[r]? = some ⟨dst, op, ty, pos, aft, some (j, want)⟩) (hc : rdChk X ops D r dst = true)
    (hy : ρ.yielded ops j ≠ some want) (h : Ver P X LL k E ops f (r :: D) (ρ.put dst undef) M Lr Lx) :
    Ver P X LL k E ops (f + 1) D ρ M Lr Lx :=
  let ⟨h1, h2, h3, h4⟩ := rdChk_spec hc
  .inr (.inl ⟨r, _, undef, ho, h1, h2, h3, h4, .inr ⟨by simp [Region.wanted, hy], rfl⟩, h⟩)

/-- The one operation that can come next: a call, a write. Lr stands. -/
theorem Ver.next {dst : Option Tmp} {op : Op} {ty : TypeId} {pos : String} {aft : Array Edge} (i : Nat) (hrd : readyL ops D = [i]) (ho : ops[i]? = some ⟨dst, op, ty, pos, aft, none⟩) (hc : (spOk ops i && dstOk X.n dst) = true)
    (h : ∀ w, Hp E M (Lr ++ Lx) w → OpRuns P ρ ⟨dst, op, ty, pos, aft, none⟩ w fun v w' => ∃ M' Lx', M.le M' ∧ Hp E M' (Lr ++ Lx') w' ∧ Ver P X LL k E ops f (i :: D) (ρ.put dst v) M' Lr Lx') :
    Ver P X LL k E ops (f + 1) D ρ M Lr Lx := by
  rw [Bool.and_eq_true] at hc
  refine .inr (.inr ⟨by rw [hrd]; simp, fun j hj => ?_⟩)
  rw [hrd] at hj
  obtain rfl := List.mem_singleton.1 hj
  exact ⟨_, ho, hc.1, hc.2, .inl ⟨rfl, fun w hw => (h w hw).mono fun v w' ⟨M', Lx', h1, h2, h3⟩ => ⟨M', Lr, Lx', h1, .inl rfl, h2, h3⟩⟩⟩
theorem Ver.nextY {dst : Option Tmp} {op : Op} {ty : TypeId} {pos : String} {aft : Array Edge} {j : Nat} {want : Bool} (i : Nat) (hrd : readyL ops D = [i]) (ho : ops[i]? = some ⟨dst, op, ty, pos, aft, some (j, want)⟩) (hc : (spOk ops i && dstOk X.n dst) = true)
    (hy : ρ.yielded ops j = some want)
    (h : ∀ w, Hp E M (Lr ++ Lx) w → OpRuns P ρ ⟨dst, op, ty, pos, aft, some (j, want)⟩ w fun v w' => ∃ M' Lx', M.le M' ∧ Hp E M' (Lr ++ Lx') w' ∧ Ver P X LL k E ops f (i :: D) (ρ.put dst v) M' Lr Lx') :
    Ver P X LL k E ops (f + 1) D ρ M Lr Lx := by
  rw [Bool.and_eq_true] at hc
  refine .inr (.inr ⟨by rw [hrd]; simp, fun j hj => ?_⟩)
  rw [hrd] at hj
  obtain rfl := List.mem_singleton.1 hj
  exact ⟨_, ho, hc.1, hc.2, .inl ⟨by simp [Region.wanted, hy], fun w hw => (h w hw).mono fun v w' ⟨M', Lx', h1, h2, h3⟩ => ⟨M', Lr, Lx', h1, .inl rfl, h2, h3⟩⟩⟩
/-- The one operation that can come next, which waits for all that has been made: all may turn. -/
theorem Ver.bar {dst : Option Tmp} {op : Op} {ty : TypeId} {pos : String} {aft : Array Edge} (i : Nat) (hrd : readyL ops D = [i]) (ho : ops[i]? = some ⟨dst, op, ty, pos, aft, none⟩) (hc : (spOk ops i && dstOk X.n dst && D.all fun d => pre ops i d) = true)
    (h : ∀ w, Hp E M (Lr ++ Lx) w → OpRuns P ρ ⟨dst, op, ty, pos, aft, none⟩ w fun v w' => ∃ M' Lr' Lx', M.le M' ∧ Hp E M' (Lr' ++ Lx') w' ∧ Ver P X LL k E ops f (i :: D) (ρ.put dst v) M' Lr' Lx') :
    Ver P X LL k E ops (f + 1) D ρ M Lr Lx := by
  rw [Bool.and_eq_true, Bool.and_eq_true] at hc
  refine .inr (.inr ⟨by rw [hrd]; simp, fun j hj => ?_⟩)
  rw [hrd] at hj
  obtain rfl := List.mem_singleton.1 hj
  exact ⟨_, ho, hc.1.1, hc.1.2, .inl ⟨rfl, fun w hw => (h w hw).mono fun v w' ⟨M', Lr', Lx', h1, h2, h3⟩ => ⟨M', Lr', Lx', h1, .inr hc.2, h2, h3⟩⟩⟩
/-- Several can come next: each of them, by 'Ver.one'. -/
theorem Ver.nexts {l : List Nat} (hrd : readyL ops D = l) (hne : l ≠ [])
    (h : ∀ i ∈ l, ∃ o, ops[i]? = some o ∧ (spOk ops i && dstOk X.n o.dst) = true ∧ o.guard = none ∧
      ∀ w, Hp E M (Lr ++ Lx) w → OpRuns P ρ o w fun v w' => ∃ M' Lx', M.le M' ∧ Hp E M' (Lr ++ Lx') w' ∧ Ver P X LL k E ops f (i :: D) (ρ.put o.dst v) M' Lr Lx') :
    Ver P X LL k E ops (f + 1) D ρ M Lr Lx := by
  refine .inr (.inr ⟨by rw [hrd]; exact hne, fun j hj => ?_⟩)
  rw [hrd] at hj
  obtain ⟨o, ho, hc, hg, hrun⟩ := h j hj
  rw [Bool.and_eq_true] at hc
  exact ⟨o, ho, hc.1, hc.2, .inl ⟨by simp [Region.wanted, hg], fun w hw => (hrun w hw).mono fun v w' ⟨M', Lx', h1, h2, h3⟩ => ⟨M', Lr, Lx', h1, .inl rfl, h2, h3⟩⟩⟩
end
end
end Go.Sx
namespace Go.Sx

/-! ### Steps with the slot written out -/
section
variable {P : Program} {X : FK} {L : Option Code → Env → World → Prop} {k : List Item} {ρ : Env} {w : World} {ops : Array Oper}
theorem GoL.stepS {d : Tmp} {op : Op} {ty : TypeId} {pos : String} {aft : Array Edge} {rest : List Oper} (hdf : noDefer op = true) (hd : Nat.blt d X.n = true)
    (h : OpRuns P ρ ⟨some d, op, ty, pos, aft, none⟩ w fun v w' => GoL P X L k ops rest (.set d v ρ) w') :
    GoL P X L k ops (⟨some d, op, ty, pos, aft, none⟩ :: rest) ρ w := GoL.step hdf hd h
theorem GoL.step0 {op : Op} {ty : TypeId} {pos : String} {aft : Array Edge} {rest : List Oper} (hdf : noDefer op = true)
    (h : OpRuns P ρ ⟨none, op, ty, pos, aft, none⟩ w fun _ w' => GoL P X L k ops rest ρ w') :
    GoL P X L k ops (⟨none, op, ty, pos, aft, none⟩ :: rest) ρ w := GoL.step hdf rfl h
theorem GoL.stepYS {d : Tmp} {op : Op} {ty : TypeId} {pos : String} {aft : Array Edge} {j : Nat} {want : Bool} {rest : List Oper} (hdf : noDefer op = true) (hd : Nat.blt d X.n = true)
    (hy : ρ.yielded ops j = some want)
    (h : OpRuns P ρ ⟨some d, op, ty, pos, aft, some (j, want)⟩ w fun v w' => GoL P X L k ops rest (.set d v ρ) w') :
    GoL P X L k ops (⟨some d, op, ty, pos, aft, some (j, want)⟩ :: rest) ρ w := GoL.stepY hdf hd hy h
theorem GoL.stepNS {d : Tmp} {op : Op} {ty : TypeId} {pos : String} {aft : Array Edge} {j : Nat} {want got : Bool} {rest : List Oper} (hd : Nat.blt d X.n = true)
    (hy : ρ.yielded ops j = some got) (hne : (got != want) = true)
    (h : GoL P X L k ops rest (.set d undef ρ) w) :
    GoL P X L k ops (⟨some d, op, ty, pos, aft, some (j, want)⟩ :: rest) ρ w :=
  GoL.stepN hd (by rw [hy]; intro e; cases e; simp at hne) h
theorem GoL.stepNU {d : Tmp} {op : Op} {ty : TypeId} {pos : String} {aft : Array Edge} {j : Nat} {want : Bool} {rest : List Oper} (hd : Nat.blt d X.n = true)
    (hy : ρ.yielded ops j = none)
    (h : GoL P X L k ops rest (.set d undef ρ) w) :
    GoL P X L k ops (⟨some d, op, ty, pos, aft, some (j, want)⟩ :: rest) ρ w :=
  GoL.stepN hd (by rw [hy]; simp) h
end

/-! ### Shapes -/
section
variable {P : Program} {ρ : Env} {w : World} {K : Value → World → Prop} {dst : Option Tmp} {ty : TypeId} {pos : String} {aft : Array Edge} {g : Option (Nat × Bool)}
variable {x : Operand} {kk : IntKind} {p : Int} {q : Bool} {s : ByteArray} {a : Option Addr} {l c : Nat} {mp : Option Nat} {fn : Fn} {f1 f2 : Array Value} {cs : Array Value} {v : Value}
theorem mvI (hx : ρ.ev x = .int kk p) (h : K (.int kk p) w) : OpRuns P ρ ⟨dst, .move x, ty, pos, aft, g⟩ w K := r_mv hx h
theorem mvB (hx : ρ.ev x = .bool q) (h : K (.bool q) w) : OpRuns P ρ ⟨dst, .move x, ty, pos, aft, g⟩ w K := r_mv hx h
theorem mvS (hx : ρ.ev x = .string s) (h : K (.string s) w) : OpRuns P ρ ⟨dst, .move x, ty, pos, aft, g⟩ w K := r_mv hx h
theorem mvP (hx : ρ.ev x = .pointer a) (h : K (.pointer a) w) : OpRuns P ρ ⟨dst, .move x, ty, pos, aft, g⟩ w K := r_mv hx h
theorem mvL (hx : ρ.ev x = .slice a l c) (h : K (.slice a l c) w) : OpRuns P ρ ⟨dst, .move x, ty, pos, aft, g⟩ w K := r_mv hx h
theorem mvM (hx : ρ.ev x = .map mp) (h : K (.map mp) w) : OpRuns P ρ ⟨dst, .move x, ty, pos, aft, g⟩ w K := r_mv hx h
theorem mvF (hx : ρ.ev x = .func fn f1 f2) (h : K (.func fn f1 f2) w) : OpRuns P ρ ⟨dst, .move x, ty, pos, aft, g⟩ w K := r_mv hx h
theorem mvA (hx : ρ.ev x = .agg cs) (h : K (.agg cs) w) : OpRuns P ρ ⟨dst, .move x, ty, pos, aft, g⟩ w K := r_mv hx h
theorem mvT (hx : ρ.ev x = .tuple cs) (h : K (.tuple cs) w) : OpRuns P ρ ⟨dst, .move x, ty, pos, aft, g⟩ w K := r_mv hx h
theorem asI (hx : ρ.ev x = .int kk p) (h : K (.int kk p) w) : OpRuns P ρ ⟨dst, .assign x, ty, pos, aft, g⟩ w K := r_as hx h
theorem asB (hx : ρ.ev x = .bool q) (h : K (.bool q) w) : OpRuns P ρ ⟨dst, .assign x, ty, pos, aft, g⟩ w K := r_as hx h
theorem asS (hx : ρ.ev x = .string s) (h : K (.string s) w) : OpRuns P ρ ⟨dst, .assign x, ty, pos, aft, g⟩ w K := r_as hx h
theorem asP (hx : ρ.ev x = .pointer a) (h : K (.pointer a) w) : OpRuns P ρ ⟨dst, .assign x, ty, pos, aft, g⟩ w K := r_as hx h
theorem asL (hx : ρ.ev x = .slice a l c) (h : K (.slice a l c) w) : OpRuns P ρ ⟨dst, .assign x, ty, pos, aft, g⟩ w K := r_as hx h
theorem asM (hx : ρ.ev x = .map mp) (h : K (.map mp) w) : OpRuns P ρ ⟨dst, .assign x, ty, pos, aft, g⟩ w K := r_as hx h
theorem asF (hx : ρ.ev x = .func fn f1 f2) (h : K (.func fn f1 f2) w) : OpRuns P ρ ⟨dst, .assign x, ty, pos, aft, g⟩ w K := r_as hx h
theorem asA (hx : ρ.ev x = .agg cs) (h : K (.agg cs) w) : OpRuns P ρ ⟨dst, .assign x, ty, pos, aft, g⟩ w K := r_as hx h
theorem asT (hx : ρ.ev x = .tuple cs) (h : K (.tuple cs) w) : OpRuns P ρ ⟨dst, .assign x, ty, pos, aft, g⟩ w K := r_as hx h

variable {t : TypeId} {u : TypeDesc} {n by_ b o : Nat} {zv : Value} {ca : Array Value} {e : TypeId} {z : Nat × Nat}
theorem ldI (ht : tinfo P t = some (u, n, by_, zv)) (hx : ρ.ev x = .pointer (some ⟨b, o, none⟩)) (hb : w.heap[b]? = some (.cells ca e z)) (hv : rd u n ca o = some (.int kk p)) (h : K (.int kk p) w) : OpRuns P ρ ⟨dst, .load t x, ty, pos, aft, g⟩ w K := r_load ht hx hb hv h
theorem ldB (ht : tinfo P t = some (u, n, by_, zv)) (hx : ρ.ev x = .pointer (some ⟨b, o, none⟩)) (hb : w.heap[b]? = some (.cells ca e z)) (hv : rd u n ca o = some (.bool q)) (h : K (.bool q) w) : OpRuns P ρ ⟨dst, .load t x, ty, pos, aft, g⟩ w K := r_load ht hx hb hv h
theorem ldS (ht : tinfo P t = some (u, n, by_, zv)) (hx : ρ.ev x = .pointer (some ⟨b, o, none⟩)) (hb : w.heap[b]? = some (.cells ca e z)) (hv : rd u n ca o = some (.string s)) (h : K (.string s) w) : OpRuns P ρ ⟨dst, .load t x, ty, pos, aft, g⟩ w K := r_load ht hx hb hv h
theorem ldP (ht : tinfo P t = some (u, n, by_, zv)) (hx : ρ.ev x = .pointer (some ⟨b, o, none⟩)) (hb : w.heap[b]? = some (.cells ca e z)) (hv : rd u n ca o = some (.pointer a)) (h : K (.pointer a) w) : OpRuns P ρ ⟨dst, .load t x, ty, pos, aft, g⟩ w K := r_load ht hx hb hv h
theorem ldL (ht : tinfo P t = some (u, n, by_, zv)) (hx : ρ.ev x = .pointer (some ⟨b, o, none⟩)) (hb : w.heap[b]? = some (.cells ca e z)) (hv : rd u n ca o = some (.slice a l c)) (h : K (.slice a l c) w) : OpRuns P ρ ⟨dst, .load t x, ty, pos, aft, g⟩ w K := r_load ht hx hb hv h
theorem ldM (ht : tinfo P t = some (u, n, by_, zv)) (hx : ρ.ev x = .pointer (some ⟨b, o, none⟩)) (hb : w.heap[b]? = some (.cells ca e z)) (hv : rd u n ca o = some (.map mp)) (h : K (.map mp) w) : OpRuns P ρ ⟨dst, .load t x, ty, pos, aft, g⟩ w K := r_load ht hx hb hv h
theorem ldF (ht : tinfo P t = some (u, n, by_, zv)) (hx : ρ.ev x = .pointer (some ⟨b, o, none⟩)) (hb : w.heap[b]? = some (.cells ca e z)) (hv : rd u n ca o = some (.func fn f1 f2)) (h : K (.func fn f1 f2) w) : OpRuns P ρ ⟨dst, .load t x, ty, pos, aft, g⟩ w K := r_load ht hx hb hv h
theorem ldA (ht : tinfo P t = some (u, n, by_, zv)) (hx : ρ.ev x = .pointer (some ⟨b, 0, none⟩)) (hb : w.heap[b]? = some (.cells ca e z)) (hu : aggDesc u = true) (hn : ca.size = n) (h : K (.agg ca) w) : OpRuns P ρ ⟨dst, .load t x, ty, pos, aft, g⟩ w K := r_loadW ht hx hb hu hn h

/-! Stores into, and boxes of, values of a shape. -/
section
variable {E : Ent} {M : RO} {L : List HProp} {i : Nat} {y : Operand}
theorem stI (ht : tinfo P t = some (u, 1, by_, zv)) (hx : ρ.ev x = .pointer (some ⟨b, 0, none⟩)) (hy : ρ.ev y = .int kk p) (H : Hp E M L w) (hi : At L i (pt b (.cells ca e (0, 0)))) (hsz : ca.size = 1) (h : ∀ w', Hp E M (L.set i (pt b (.cells #[.int kk p] e (0, 0)))) w' → K undef w') : OpRuns P ρ ⟨dst, .store t x y, ty, pos, aft, g⟩ w K := r_storeW ht hx hy H hi rfl rfl hsz h
theorem stB (ht : tinfo P t = some (u, 1, by_, zv)) (hx : ρ.ev x = .pointer (some ⟨b, 0, none⟩)) (hy : ρ.ev y = .bool q) (H : Hp E M L w) (hi : At L i (pt b (.cells ca e (0, 0)))) (hsz : ca.size = 1) (h : ∀ w', Hp E M (L.set i (pt b (.cells #[.bool q] e (0, 0)))) w' → K undef w') : OpRuns P ρ ⟨dst, .store t x y, ty, pos, aft, g⟩ w K := r_storeW ht hx hy H hi rfl rfl hsz h
theorem stS (ht : tinfo P t = some (u, 1, by_, zv)) (hx : ρ.ev x = .pointer (some ⟨b, 0, none⟩)) (hy : ρ.ev y = .string s) (H : Hp E M L w) (hi : At L i (pt b (.cells ca e (0, 0)))) (hsz : ca.size = 1) (h : ∀ w', Hp E M (L.set i (pt b (.cells #[.string s] e (0, 0)))) w' → K undef w') : OpRuns P ρ ⟨dst, .store t x y, ty, pos, aft, g⟩ w K := r_storeW ht hx hy H hi rfl rfl hsz h
theorem stP (ht : tinfo P t = some (u, 1, by_, zv)) (hx : ρ.ev x = .pointer (some ⟨b, 0, none⟩)) (hy : ρ.ev y = .pointer a) (H : Hp E M L w) (hi : At L i (pt b (.cells ca e (0, 0)))) (hsz : ca.size = 1) (h : ∀ w', Hp E M (L.set i (pt b (.cells #[.pointer a] e (0, 0)))) w' → K undef w') : OpRuns P ρ ⟨dst, .store t x y, ty, pos, aft, g⟩ w K := r_storeW ht hx hy H hi rfl rfl hsz h
theorem stL (ht : tinfo P t = some (u, 1, by_, zv)) (hx : ρ.ev x = .pointer (some ⟨b, 0, none⟩)) (hy : ρ.ev y = .slice a l c) (H : Hp E M L w) (hi : At L i (pt b (.cells ca e (0, 0)))) (hsz : ca.size = 1) (h : ∀ w', Hp E M (L.set i (pt b (.cells #[.slice a l c] e (0, 0)))) w' → K undef w') : OpRuns P ρ ⟨dst, .store t x y, ty, pos, aft, g⟩ w K := r_storeW ht hx hy H hi rfl rfl hsz h
theorem stM (ht : tinfo P t = some (u, 1, by_, zv)) (hx : ρ.ev x = .pointer (some ⟨b, 0, none⟩)) (hy : ρ.ev y = .map mp) (H : Hp E M L w) (hi : At L i (pt b (.cells ca e (0, 0)))) (hsz : ca.size = 1) (h : ∀ w', Hp E M (L.set i (pt b (.cells #[.map mp] e (0, 0)))) w' → K undef w') : OpRuns P ρ ⟨dst, .store t x y, ty, pos, aft, g⟩ w K := r_storeW ht hx hy H hi rfl rfl hsz h
theorem stF (ht : tinfo P t = some (u, 1, by_, zv)) (hx : ρ.ev x = .pointer (some ⟨b, 0, none⟩)) (hy : ρ.ev y = .func fn f1 f2) (H : Hp E M L w) (hi : At L i (pt b (.cells ca e (0, 0)))) (hsz : ca.size = 1) (h : ∀ w', Hp E M (L.set i (pt b (.cells #[.func fn f1 f2] e (0, 0)))) w' → K undef w') : OpRuns P ρ ⟨dst, .store t x y, ty, pos, aft, g⟩ w K := r_storeW ht hx hy H hi rfl rfl hsz h
theorem stA (ht : tinfo P t = some (u, n, by_, zv)) (hx : ρ.ev x = .pointer (some ⟨b, 0, none⟩)) (hy : ρ.ev y = .agg cs) (H : Hp E M L w) (hi : At L i (pt b (.cells ca e (0, 0)))) (hn : cs.size = n) (hone : cs.toList.all oneCell = true) (hsz : ca.size = n) (h : ∀ w', Hp E M (L.set i (pt b (.cells cs e (0, 0)))) w' → K undef w') : OpRuns P ρ ⟨dst, .store t x y, ty, pos, aft, g⟩ w K := r_storeW ht hx hy H hi hn hone hsz h
theorem bxI (hx : ρ.ev x = .int kk p) (H : Hp E M L w) (h : ∀ b w', E.w.heap.size ≤ b → Hp E M (pt b (.cells #[.int kk p] t (0, 0)) :: L) w' → K (.pointer (some ⟨b, 0, none⟩)) w') : OpRuns P ρ ⟨dst, .box t x, ty, pos, aft, g⟩ w K := r_box hx H h
theorem bxB (hx : ρ.ev x = .bool q) (H : Hp E M L w) (h : ∀ b w', E.w.heap.size ≤ b → Hp E M (pt b (.cells #[.bool q] t (0, 0)) :: L) w' → K (.pointer (some ⟨b, 0, none⟩)) w') : OpRuns P ρ ⟨dst, .box t x, ty, pos, aft, g⟩ w K := r_box hx H h
theorem bxS (hx : ρ.ev x = .string s) (H : Hp E M L w) (h : ∀ b w', E.w.heap.size ≤ b → Hp E M (pt b (.cells #[.string s] t (0, 0)) :: L) w' → K (.pointer (some ⟨b, 0, none⟩)) w') : OpRuns P ρ ⟨dst, .box t x, ty, pos, aft, g⟩ w K := r_box hx H h
theorem bxP (hx : ρ.ev x = .pointer a) (H : Hp E M L w) (h : ∀ b w', E.w.heap.size ≤ b → Hp E M (pt b (.cells #[.pointer a] t (0, 0)) :: L) w' → K (.pointer (some ⟨b, 0, none⟩)) w') : OpRuns P ρ ⟨dst, .box t x, ty, pos, aft, g⟩ w K := r_box hx H h
theorem bxL (hx : ρ.ev x = .slice a l c) (H : Hp E M L w) (h : ∀ b w', E.w.heap.size ≤ b → Hp E M (pt b (.cells #[.slice a l c] t (0, 0)) :: L) w' → K (.pointer (some ⟨b, 0, none⟩)) w') : OpRuns P ρ ⟨dst, .box t x, ty, pos, aft, g⟩ w K := r_box hx H h
theorem bxM (hx : ρ.ev x = .map mp) (H : Hp E M L w) (h : ∀ b w', E.w.heap.size ≤ b → Hp E M (pt b (.cells #[.map mp] t (0, 0)) :: L) w' → K (.pointer (some ⟨b, 0, none⟩)) w') : OpRuns P ρ ⟨dst, .box t x, ty, pos, aft, g⟩ w K := r_box hx H h
theorem bxF (hx : ρ.ev x = .func fn f1 f2) (H : Hp E M L w) (h : ∀ b w', E.w.heap.size ≤ b → Hp E M (pt b (.cells #[.func fn f1 f2] t (0, 0)) :: L) w' → K (.pointer (some ⟨b, 0, none⟩)) w') : OpRuns P ρ ⟨dst, .box t x, ty, pos, aft, g⟩ w K := r_box hx H h
theorem bxA (hx : ρ.ev x = .agg cs) (H : Hp E M L w) (h : ∀ b w', E.w.heap.size ≤ b → Hp E M (pt b (.cells cs t (0, 0)) :: L) w' → K (.pointer (some ⟨b, 0, none⟩)) w') : OpRuns P ρ ⟨dst, .box t x, ty, pos, aft, g⟩ w K := r_box hx H h
end


theorem zip_splice (off : Nat) (vs : List Value) : ∀ (k : Nat) (cells : Array Value), (vs.zipIdx k).foldl (fun cs (x : Value × Nat) => cs.setIfInBounds (off + x.2) x.1) cells = splice cells (off + k) vs := by
  induction vs with
  | nil => intro k cells; rfl
  | cons v vs ih =>
    intro k cells
    rw [List.zipIdx_cons, List.foldl_cons, ih]; rfl
theorem splice_list (cs vs : List Value) (off : Nat) (h : off + vs.length ≤ cs.length) : splice cs.toArray off vs = (cs.take off ++ vs ++ cs.drop (off + vs.length)).toArray := by
  apply Array.ext_getElem?
  intro j
  rw [splice_get vs _ off (by simpa using h) j]
  simp only [List.getElem?_toArray]
  by_cases h1 : j < off
  · rw [if_neg (by omega), List.append_assoc, List.getElem?_append_left (by simp; omega), List.getElem?_take_of_lt h1]
  · by_cases h2 : j < off + vs.length
    · rw [if_pos ⟨by omega, h2⟩, List.append_assoc, List.getElem?_append_right (by simp; omega), List.getElem?_append_left (by simp; omega)]
      congr 1; simp; omega
    · rw [if_neg (by omega), List.getElem?_append_right (by simp; omega), List.getElem?_drop]
      congr 1; simp; omega

/-- A literal's parts, put in their places. -/
def fillL (place : Nat → Option (Nat × Nat)) : List (Nat × Value) → List Value → Option (List Value)
  | [], cs => some cs
  | (i, v) :: r, cs =>
    match place i with
    | none => none
    | some (o, z) => bif Nat.beq v.cells.size z && Nat.ble (o + z) cs.length then fillL place r (cs.take o ++ v.cells.toList ++ cs.drop (o + z)) else none

theorem fill_list {place : Nat → Option (Nat × Nat)} : ∀ (ps : List (Nat × Value)) (cs r : List Value), fillL place ps cs = some r → Instr.fill place cs.toArray ps = some r.toArray
  | [], cs, r, h => by simp only [fillL, Option.some.injEq] at h; subst h; rfl
  | (i, v) :: ps, cs, r, h => by
    unfold fillL at h
    unfold Instr.fill
    cases hp : place i with
    | none => rw [hp] at h; cases h
    | some x =>
      obtain ⟨o, z⟩ := x
      rw [hp] at h
      simp only at h ⊢
      cases hc : (Nat.beq v.cells.size z && Nat.ble (o + z) cs.length) with
      | false => rw [hc] at h; cases h
      | true =>
        rw [hc] at h
        simp only [Bool.and_eq_true, Nat.ble_eq] at hc
        have hc1 := Nat.eq_of_beq_eq_true hc.1
        have hb : ¬ ((decide (v.cells.size ≠ z) || decide (o + v.cells.size > cs.toArray.size)) = true) := by simp; omega
        rw [if_neg hb]
        have : Array.foldl (fun cs x => match x with | (c, j) => cs.setIfInBounds (o + j) c) cs.toArray v.cells.zipIdx = (cs.take o ++ v.cells.toList ++ cs.drop (o + z)).toArray := by
          have e : (fun (cs : Array Value) (x : Value × Nat) => match x with | (c, j) => cs.setIfInBounds (o + j) c) = fun cs x => cs.setIfInBounds (o + x.2) x.1 := by funext cs ⟨c, j⟩; rfl
          rw [e, ← Array.foldl_toList, Array.toList_zipIdx]
          have := zip_splice o v.cells.toList 0 cs.toArray
          rw [Nat.add_zero] at this
          rw [this, splice_list _ _ _ (by simp; omega)]
          simp [hc1]
        rw [this]
        exact fill_list ps _ r h

/-- A struct literal. -/
theorem bldA {parts : Array (Nat × Operand)} {fs : Array Field} {places : List (Nat × Nat)} {cells : Array Value} (ht : tinfo P t = some (.struct fs, n, by_, zv))
    (hpl : fs.toList.map (fun f => (f.offset, ((P.info? f.type).map (·.size)).getD 0)) = places) (hz : fs.toList.all (fun f => (P.info? f.type).isSome) = true)
    (hf : Instr.fill (fun i => places[i]?) zv.cells (evParts ρ parts).toList = some cells) (h : K (.agg cells) w) : OpRuns P ρ ⟨dst, .build t parts, ty, pos, aft, g⟩ w K := by
  refine .ofV exec_build ?_
  unfold Instr.build
  refine Runs.bind (Runs.zeroValue ht ?_)
  refine Runs.bind (Runs.underlying ht ?_)
  have hm : Runs P (fs.mapM fun f => do pure (f.offset, ← Go.sizeOf f.type)) w fun a w' => a.toList = places ∧ w' = w := by
    have hlist : ∀ (l : List Field), l.all (fun f => (P.info? f.type).isSome) = true → Runs P (l.mapM fun f => do pure (f.offset, ← Go.sizeOf f.type)) w fun a w' => a = l.map (fun f => (f.offset, ((P.info? f.type).map (·.size)).getD 0)) ∧ w' = w := by
      intro l
      induction l with
      | nil => intro _; exact ⟨rfl, rfl⟩
      | cons f l ih =>
        intro hl
        rw [List.all_cons, Bool.and_eq_true] at hl
        rw [List.mapM_cons]
        obtain ⟨i, hi⟩ := Option.isSome_iff_exists.1 hl.1
        refine Runs.bind (Runs.bind (Runs.bind (Runs.of_eq (a := i) (w' := w) (by simp [Go.typeInfo, hi]) (Runs.pure (Runs.pure ?_)))))
        refine Runs.bind ((ih hl.2).mono ?_)
        rintro a w' ⟨rfl, rfl⟩
        refine Runs.pure ⟨?_, rfl⟩
        rw [List.map_cons, hi]; rfl
    rw [Array.mapM_eq_mapM_toList]
    refine Runs.bind ((hlist fs.toList hz).mono ?_)
    rintro a w' ⟨rfl, rfl⟩
    exact Runs.pure ⟨hpl, rfl⟩
  refine Runs.bind (hm.mono ?_)
  rintro pl w' ⟨hpl', rfl⟩
  have : (fun i : Nat => pl[i]?) = fun i => places[i]? := by funext i; rw [← hpl']; simp
  rw [this, hf]
  exact Runs.pure h
theorem bld {parts : List (Nat × Operand)} {fs : Array Field} {places : List (Nat × Nat)} {cells zl : List Value} (ht : tinfo P t = some (.struct fs, n, by_, zv))
    (hpl : fs.toList.map (fun f => (f.offset, ((P.info? f.type).map (·.size)).getD 0)) = places) (hz : fs.toList.all (fun f => (P.info? f.type).isSome) = true) (hzl : zv = .agg zl.toArray)
    (hf : fillL (fun i => places[i]?) (parts.map fun p => (p.1, ρ.ev p.2)) zl = some cells) (h : K (.agg cells.toArray) w) : OpRuns P ρ ⟨dst, .build t parts.toArray, ty, pos, aft, g⟩ w K :=
  bldA ht hpl hz (cells := cells.toArray) (by
    subst hzl
    have := fill_list _ _ _ hf
    simpa [evParts, Value.cells] using this) h

/-- A slice literal. -/
theorem r_bsl {E : Ent} {M : RO} {L : List HProp} {el : TypeId} {ue : TypeDesc} {ne be len : Nat} {ze : Value} {parts : List (Nat × Operand)} {cells : List Value} (ht : tinfo P t = some (.slice el, n, by_, zv)) (he : tinfo P el = some (ue, ne, be, ze))
    (hlen : Nat.ble (len * ne) 16777216 = true)
    (hf : fillL (fun i => some (i * ne, ne)) (parts.map fun p => (p.1, ρ.ev p.2)) ((List.range (len * ne)).map fun j => ze.cells.toList.getD (j % ze.cells.toList.length) default) = some cells)
    (H : Hp E M L w) (h : ∀ b w', E.w.heap.size ≤ b → Hp E M (pt b (.cells cells.toArray el (0, 0)) :: L) w' → K (.slice (some ⟨b, 0, none⟩) len len) w') :
    OpRuns P ρ ⟨dst, .buildSlice t len parts.toArray, ty, pos, aft, g⟩ w K := by
  refine r_buildSlice ht he (cells := cells.toArray) (by simpa [Nat.ble_eq] using hlen) ?_ H h
  have := fill_list _ _ _ hf
  have e : ((Array.range (len * ne)).map ((if len * ne = 0 then #[] else ze.cells)[· % (if len * ne = 0 then #[] else ze.cells).size]!)) = ((List.range (len * ne)).map fun j => ze.cells.toList.getD (j % ze.cells.toList.length) default).toArray := by
    by_cases hz : len * ne = 0
    · simp [hz]
    · simp only [if_neg hz]
      apply Array.ext'
      rw [Array.toList_map, Array.toList_range]
      simp [Array.getElem!_eq_getD, Array.getD_eq_getD_getElem?, List.getD_eq_getElem?_getD]
  rw [e]
  simpa [evParts] using this

end

/-! ### Functions -/
/-- What is owed where a function leaves. -/
def RetOK (P : Program) (fn : Func) (E : Ent) (Post : Value → RO → List HProp → Prop) (j : Option Code) (ρ : Env) (w₀ : World) : Prop :=
  (j = none ∨ j = some .ret) ∧ ∃ w, Takes P ρ.ds w₀ w ∧ ∃ v M' L', (∀ tmps : Array Value, (∀ i, tmps.getD i undef = ρ.get i) → (results fn tmps).run P w = .ok v w) ∧ Hp E M' L' w ∧ Post v M' L'

theorem Sp.enter {P : Program} {f : FuncId} {fn : Func} {c : Code} {args : List Value} {M : RO} {Lin : List HProp} {Post : Value → RO → List HProp → Prop} {n : Nat}
    (hf : P.funcs[f]? = some fn) (hb : fn.body = some c) (hnt : fn.ntmps = n) (hn : Nat.ble args.length n = true)
    (h : ∀ E : Ent, E.M = M → Hp E M Lin E.w → Goes P ⟨f, n, none⟩ (RetOK P fn E Post) [.code c] (Env.args args) E.w) : Sp P f args M Lin Post := by
  intro E hE hH
  subst hnt
  refine (calls_of_goes (R := fun v w' => ∃ M' L', Hp E M' L' w' ∧ Post v M' L') hf hb (by simpa using hn) ((h E hE hH).mono ?_)).mono ?_
  · rintro j ρ w₀ ⟨hj, w, hd, v, M', L', hv, hh, hp⟩
    exact ⟨hj, w, hd, v, hv, M', L', hh, hp⟩
  · rintro e w' ⟨v, rfl, M', L', hh, hp⟩
    exact ⟨v, M', L', rfl, hh, hp⟩

/-- A result variable as it reads. -/
def Res (P : Program) (ρ : Env) (w : World) : ResultVar → Value → Prop
  | .tmp t, v => ρ.get t = v
  | .cell a t, v => ∃ b o c e z u n by_ zv, ρ.get a = .pointer (some ⟨b, o, none⟩) ∧ tinfo P t = some (u, n, by_, zv) ∧ w.heap[b]? = some (.cells c e z) ∧ rd u n c o = some v

section
variable {P : Program} {fn : Func} {E : Ent} {Post : Value → RO → List HProp → Prop} {ρ : Env} {w : World} {M : RO} {L : List HProp}

theorem res_cell {a : Tmp} {t : TypeId} {v : Value} {b o : Nat} {c : Array Value} {e : TypeId} {z : Nat × Nat} {u : TypeDesc} {n by_ : Nat} {zv : Value} (ha : ρ.get a = .pointer (some ⟨b, o, none⟩)) (ht : tinfo P t = some (u, n, by_, zv))
    (hb : w.heap[b]? = some (.cells c e z)) (hv : rd u n c o = some v) : Res P ρ w (.cell a t) v := ⟨b, o, c, e, z, u, n, by_, zv, ha, ht, hb, hv⟩
/-- A struct result in a block of its own. -/
theorem res_agg {a : Tmp} {t : TypeId} {b : Nat} {c : Array Value} {e : TypeId} {z : Nat × Nat} {u : TypeDesc} {n by_ : Nat} {zv : Value} (ha : ρ.get a = .pointer (some ⟨b, 0, none⟩)) (ht : tinfo P t = some (u, n, by_, zv))
    (hb : w.heap[b]? = some (.cells c e z)) (hu : aggDesc u = true) (hn : c.size = n) : Res P ρ w (.cell a t) (.agg c) :=
  res_cell ha ht hb (by
    unfold rd; rw [hu]; simp only [if_true]; rw [if_pos (by omega)]; congr 2
    apply Array.ext <;> simp [hn])

/-- How the model reads a result variable. -/
def rvSem (tmps : Array Value) : ResultVar → Sem Value
  | .tmp t => pure (tmps.getD t undef)
  | .cell a t => do loadVar t (← asAddr (tmps.getD a undef))

theorem Res.run {r : ResultVar} {v : Value} (h : Res P ρ w r v) {tmps : Array Value} (ht : ∀ i, tmps.getD i undef = ρ.get i) : (rvSem tmps r).run P w = .ok v w := by
  cases r with
  | tmp t =>
    have h' : ρ.get t = v := h
    show Result.ok (tmps.getD t undef) w = _
    rw [ht, h']
  | cell a t =>
    obtain ⟨b, o, c, e, z, u, n, by_, zv, ha, hti, hb, hv⟩ := h
    have hr : Runs P (rvSem tmps (.cell a t)) w fun v' w' => v' = v ∧ w' = w := by
      show Runs P (do loadVar t (← asAddr (tmps.getD a undef))) w _
      rw [ht, ha]
      exact Runs.bind (Runs.pure (Runs.loadVar hti hb hv ⟨rfl, rfl⟩))
    unfold Runs at hr
    split at hr
    · rename_i v' w' heq
      obtain ⟨rfl, rfl⟩ := hr
      exact heq
    · exact hr.elim

inductive All2 {α β : Type} (R : α → β → Prop) : List α → List β → Prop
  | nil : All2 R [] []
  | cons {a : α} {b : β} {l : List α} {m : List β} : R a b → All2 R l m → All2 R (a :: l) (b :: m)

theorem results_run {vs : List Value} {l : List ResultVar} (hl : fn.results = l.toArray) (h : All2 (Res P ρ w) l vs) {tmps : Array Value} (ht : ∀ i, tmps.getD i undef = ρ.get i) :
    (results fn tmps).run P w = .ok (if h : vs.length = 1 then vs[0] else .tuple vs.toArray) w := by
  have e : results fn tmps = (do
      let vs ← fn.results.mapM (rvSem tmps)
      pure (if h : vs.size = 1 then vs[0] else .tuple vs)) := rfl
  rw [e, hl, List.mapM_toArray]
  have key : ∀ {l : List ResultVar} {vs : List Value}, All2 (Res P ρ w) l vs → (l.mapM (rvSem tmps) : Sem (List Value)).run P w = .ok vs w := by
    intro l vs h
    induction h with
    | nil => rfl
    | cons h1 _ ih =>
      rw [List.mapM_cons, Sem.run_bind, h1.run ht]
      simp only [Result.andThen_ok, Sem.run_bind, ih]
      rfl
  rw [Sem.run_bind, Sem.run_map, key h]
  simp only [Result.andThen_ok]
  by_cases h1 : vs.length = 1
  · simp [h1]
  · simp [h1]

theorem ret0 (hl : fn.results = #[]) (hd : ρ.ds = []) (hH : Hp E M L w) (hp : Post (.tuple #[]) M L) : RetOK P fn E Post (some .ret) ρ w :=
  ⟨.inr rfl, w, hd ▸ .nil, _, M, L, fun _ ht => results_run (vs := []) hl .nil ht, hH, hp⟩
theorem end0 (hl : fn.results = #[]) (hd : ρ.ds = []) (hH : Hp E M L w) (hp : Post (.tuple #[]) M L) : RetOK P fn E Post none ρ w :=
  ⟨.inl rfl, w, hd ▸ .nil, _, M, L, fun _ ht => results_run (vs := []) hl .nil ht, hH, hp⟩
theorem ret1 {r : ResultVar} {v : Value} (hl : fn.results = #[r]) (hd : ρ.ds = []) (hr : Res P ρ w r v) (hH : Hp E M L w) (hp : Post v M L) : RetOK P fn E Post (some .ret) ρ w :=
  ⟨.inr rfl, w, hd ▸ .nil, _, M, L, fun _ ht => results_run (vs := [v]) hl (.cons hr .nil) ht, hH, hp⟩
theorem ret2 {r r' : ResultVar} {v v' : Value} (hl : fn.results = #[r, r']) (hd : ρ.ds = []) (hr : Res P ρ w r v) (hr' : Res P ρ w r' v') (hH : Hp E M L w) (hp : Post (.tuple #[v, v']) M L) : RetOK P fn E Post (some .ret) ρ w :=
  ⟨.inr rfl, w, hd ▸ .nil, _, M, L, fun _ ht => results_run (vs := [v, v']) hl (.cons hr (.cons hr' .nil)) ht, hH, hp⟩
theorem ret3 {r r' r'' : ResultVar} {v v' v'' : Value} (hl : fn.results = #[r, r', r'']) (hd : ρ.ds = []) (hr : Res P ρ w r v) (hr' : Res P ρ w r' v') (hr'' : Res P ρ w r'' v'') (hH : Hp E M L w) (hp : Post (.tuple #[v, v', v'']) M L) : RetOK P fn E Post (some .ret) ρ w :=
  ⟨.inr rfl, w, hd ▸ .nil, _, M, L, fun _ ht => results_run (vs := [v, v', v'']) hl (.cons hr (.cons hr' (.cons hr'' .nil))) ht, hH, hp⟩
end

end Go.Sx
namespace Go.Sx

section
variable {P : Program} {ρ : Env} {w : World} {K : Value → World → Prop} {dst : Option Tmp} {ty : TypeId} {pos : String} {aft : Array Edge} {g : Option (Nat × Bool)}
variable {E : Ent} {M : RO} {L : List HProp} {x : Operand} {a : Int} {k : IntKind}
variable {s d : TypeId} {us : TypeDesc} {n1 b1 n2 b2 : Nat} {z1 z2 : Value}

theorem r_cv_u64 (hs : tinfo P s = some (us, n1, b1, z1)) (hd : tinfo P d = some (.int .u64, n2, b2, z2)) (hx : ρ.ev x = .int k a) (h1 : 0 ≤ a) (h2 : a ≤ 18446744073709551615) (h : K (.int .u64 a) w) : OpRuns P ρ ⟨dst, .convert s d x, ty, pos, aft, g⟩ w K :=
  r_convInt hs hd hx (by rw [wrap_u64 h1 h2]; exact h)
theorem r_cv_i64 (hs : tinfo P s = some (us, n1, b1, z1)) (hd : tinfo P d = some (.int .i64, n2, b2, z2)) (hx : ρ.ev x = .int k a) (h1 : -9223372036854775808 ≤ a) (h2 : a ≤ 9223372036854775807) (h : K (.int .i64 a) w) : OpRuns P ρ ⟨dst, .convert s d x, ty, pos, aft, g⟩ w K :=
  r_convInt hs hd hx (by rw [wrap_i64 h1 h2]; exact h)
theorem r_cv_u32 (hs : tinfo P s = some (us, n1, b1, z1)) (hd : tinfo P d = some (.int .u32, n2, b2, z2)) (hx : ρ.ev x = .int k a) (h1 : 0 ≤ a) (h2 : a ≤ 4294967295) (h : K (.int .u32 a) w) : OpRuns P ρ ⟨dst, .convert s d x, ty, pos, aft, g⟩ w K :=
  r_convInt hs hd hx (by rw [wrap_u32 h1 h2]; exact h)
theorem r_cv_u16 (hs : tinfo P s = some (us, n1, b1, z1)) (hd : tinfo P d = some (.int .u16, n2, b2, z2)) (hx : ρ.ev x = .int k a) (h1 : 0 ≤ a) (h2 : a ≤ 65535) (h : K (.int .u16 a) w) : OpRuns P ρ ⟨dst, .convert s d x, ty, pos, aft, g⟩ w K :=
  r_convInt hs hd hx (by rw [wrap_u16 h1 h2]; exact h)
theorem r_cv_u8 (hs : tinfo P s = some (us, n1, b1, z1)) (hd : tinfo P d = some (.int .u8, n2, b2, z2)) (hx : ρ.ev x = .int k a) (h1 : 0 ≤ a) (h2 : a ≤ 255) (h : K (.int .u8 a) w) : OpRuns P ρ ⟨dst, .convert s d x, ty, pos, aft, g⟩ w K :=
  r_convInt hs hd hx (by rw [wrap_u8 h1 h2]; exact h)
theorem r_cv_i32 (hs : tinfo P s = some (us, n1, b1, z1)) (hd : tinfo P d = some (.int .i32, n2, b2, z2)) (hx : ρ.ev x = .int k a) (h1 : -2147483648 ≤ a) (h2 : a ≤ 2147483647) (h : K (.int .i32 a) w) : OpRuns P ρ ⟨dst, .convert s d x, ty, pos, aft, g⟩ w K :=
  r_convInt hs hd hx (by rw [wrap_i32 h1 h2]; exact h)

theorem r_lssT {t yt : TypeId} {x y : Operand} {a b : Int} {k : IntKind} (hx : ρ.ev x = .int k a) (hy : ρ.ev y = .int k b) (hc : a < b) (h : K (.bool true) w) : OpRuns P ρ ⟨dst, .binOp .lss t x y yt, ty, pos, aft, g⟩ w K :=
  r_lss hx hy (by rw [show (decide (a < b)) = true by simp [hc]]; exact h)
theorem r_lssF {t yt : TypeId} {x y : Operand} {a b : Int} {k : IntKind} (hx : ρ.ev x = .int k a) (hy : ρ.ev y = .int k b) (hc : ¬ a < b) (h : K (.bool false) w) : OpRuns P ρ ⟨dst, .binOp .lss t x y yt, ty, pos, aft, g⟩ w K :=
  r_lss hx hy (by rw [show (decide (a < b)) = false by simpa using hc]; exact h)
theorem r_leqT {t yt : TypeId} {x y : Operand} {a b : Int} {k : IntKind} (hx : ρ.ev x = .int k a) (hy : ρ.ev y = .int k b) (hc : a ≤ b) (h : K (.bool true) w) : OpRuns P ρ ⟨dst, .binOp .leq t x y yt, ty, pos, aft, g⟩ w K :=
  r_leq hx hy (by rw [show (decide (a ≤ b)) = true by simp [hc]]; exact h)
theorem r_leqF {t yt : TypeId} {x y : Operand} {a b : Int} {k : IntKind} (hx : ρ.ev x = .int k a) (hy : ρ.ev y = .int k b) (hc : ¬ a ≤ b) (h : K (.bool false) w) : OpRuns P ρ ⟨dst, .binOp .leq t x y yt, ty, pos, aft, g⟩ w K :=
  r_leq hx hy (by rw [show (decide (a ≤ b)) = false by simpa using hc]; exact h)
theorem r_gtrT {t yt : TypeId} {x y : Operand} {a b : Int} {k : IntKind} (hx : ρ.ev x = .int k a) (hy : ρ.ev y = .int k b) (hc : b < a) (h : K (.bool true) w) : OpRuns P ρ ⟨dst, .binOp .gtr t x y yt, ty, pos, aft, g⟩ w K :=
  r_gtr hx hy (by rw [show (decide (b < a)) = true by simp [hc]]; exact h)
theorem r_gtrF {t yt : TypeId} {x y : Operand} {a b : Int} {k : IntKind} (hx : ρ.ev x = .int k a) (hy : ρ.ev y = .int k b) (hc : ¬ b < a) (h : K (.bool false) w) : OpRuns P ρ ⟨dst, .binOp .gtr t x y yt, ty, pos, aft, g⟩ w K :=
  r_gtr hx hy (by rw [show (decide (b < a)) = false by simpa using hc]; exact h)
theorem r_geqT {t yt : TypeId} {x y : Operand} {a b : Int} {k : IntKind} (hx : ρ.ev x = .int k a) (hy : ρ.ev y = .int k b) (hc : b ≤ a) (h : K (.bool true) w) : OpRuns P ρ ⟨dst, .binOp .geq t x y yt, ty, pos, aft, g⟩ w K :=
  r_geq hx hy (by rw [show (decide (b ≤ a)) = true by simp [hc]]; exact h)
theorem r_geqF {t yt : TypeId} {x y : Operand} {a b : Int} {k : IntKind} (hx : ρ.ev x = .int k a) (hy : ρ.ev y = .int k b) (hc : ¬ b ≤ a) (h : K (.bool false) w) : OpRuns P ρ ⟨dst, .binOp .geq t x y yt, ty, pos, aft, g⟩ w K :=
  r_geq hx hy (by rw [show (decide (b ≤ a)) = false by simpa using hc]; exact h)
theorem r_eqlT {t yt : TypeId} {x y : Operand} {a b : Int} {k : IntKind} (hx : ρ.ev x = .int k a) (hy : ρ.ev y = .int k b) (hc : a = b) (h : K (.bool true) w) : OpRuns P ρ ⟨dst, .binOp .eql t x y yt, ty, pos, aft, g⟩ w K :=
  r_eql hx hy (by rw [show (a == b) = true by simp [hc]]; exact h)
theorem r_eqlF {t yt : TypeId} {x y : Operand} {a b : Int} {k : IntKind} (hx : ρ.ev x = .int k a) (hy : ρ.ev y = .int k b) (hc : ¬ a = b) (h : K (.bool false) w) : OpRuns P ρ ⟨dst, .binOp .eql t x y yt, ty, pos, aft, g⟩ w K :=
  r_eql hx hy (by rw [show (a == b) = false by simpa using hc]; exact h)
theorem r_neqT {t yt : TypeId} {x y : Operand} {a b : Int} {k : IntKind} (hx : ρ.ev x = .int k a) (hy : ρ.ev y = .int k b) (hc : a ≠ b) (h : K (.bool true) w) : OpRuns P ρ ⟨dst, .binOp .neq t x y yt, ty, pos, aft, g⟩ w K :=
  r_neq hx hy (by rw [show (a != b) = true by simp [hc]]; exact h)
theorem r_neqF {t yt : TypeId} {x y : Operand} {a b : Int} {k : IntKind} (hx : ρ.ev x = .int k a) (hy : ρ.ev y = .int k b) (hc : ¬ a ≠ b) (h : K (.bool false) w) : OpRuns P ρ ⟨dst, .binOp .neq t x y yt, ty, pos, aft, g⟩ w K :=
  r_neq hx hy (by rw [show (a != b) = false by simpa using hc]; exact h)

theorem r_addR {t yt : TypeId} {x y : Operand} {a b : Int} (r : Int) (hx : ρ.ev x = .int .i64 a) (hy : ρ.ev y = .int .i64 b) (hr : a + b = r) (h1 : -9223372036854775808 ≤ r) (h2 : r ≤ 9223372036854775807) (h : K (.int .i64 r) w) : OpRuns P ρ ⟨dst, .binOp .add t x y yt, ty, pos, aft, g⟩ w K :=
  r_addI hx hy (by omega) (by omega) (by rw [hr]; exact h)
theorem r_subR {t yt : TypeId} {x y : Operand} {a b : Int} (r : Int) (hx : ρ.ev x = .int .i64 a) (hy : ρ.ev y = .int .i64 b) (hr : a - b = r) (h1 : -9223372036854775808 ≤ r) (h2 : r ≤ 9223372036854775807) (h : K (.int .i64 r) w) : OpRuns P ρ ⟨dst, .binOp .sub t x y yt, ty, pos, aft, g⟩ w K :=
  r_subI hx hy (by omega) (by omega) (by rw [hr]; exact h)
theorem r_mulR {t yt : TypeId} {x y : Operand} {a b : Int} (r : Int) (hx : ρ.ev x = .int .i64 a) (hy : ρ.ev y = .int .i64 b) (hr : a * b = r) (h1 : -9223372036854775808 ≤ r) (h2 : r ≤ 9223372036854775807) (h : K (.int .i64 r) w) : OpRuns P ρ ⟨dst, .binOp .mul t x y yt, ty, pos, aft, g⟩ w K :=
  r_mulI hx hy (by omega) (by omega) (by rw [hr]; exact h)
theorem r_addUR {t yt : TypeId} {x y : Operand} {a b : Int} (r : Int) (hx : ρ.ev x = .int .u64 a) (hy : ρ.ev y = .int .u64 b) (hr : a + b = r) (h1 : 0 ≤ r) (h2 : r ≤ 18446744073709551615) (h : K (.int .u64 r) w) : OpRuns P ρ ⟨dst, .binOp .add t x y yt, ty, pos, aft, g⟩ w K :=
  r_addU hx hy (by omega) (by omega) (by rw [hr]; exact h)
theorem r_mulUR {t yt : TypeId} {x y : Operand} {a b : Int} (r : Int) (hx : ρ.ev x = .int .u64 a) (hy : ρ.ev y = .int .u64 b) (hr : a * b = r) (h1 : 0 ≤ r) (h2 : r ≤ 18446744073709551615) (h : K (.int .u64 r) w) : OpRuns P ρ ⟨dst, .binOp .mul t x y yt, ty, pos, aft, g⟩ w K :=
  r_mulU hx hy (by omega) (by omega) (by rw [hr]; exact h)
theorem r_shrUR {t yt : TypeId} {x y : Operand} {a : Int} {k' : IntKind} {c : Nat} (r d : Int) (hx : ρ.ev x = .int .u64 a) (hy : ρ.ev y = .int k' c) (hc : c ≤ 64) (hd : (2 : Int) ^ c = d) (hr : a / d = r) (h : K (.int .u64 r) w) : OpRuns P ρ ⟨dst, .binOp .shr t x y yt, ty, pos, aft, g⟩ w K :=
  r_shrU hx hy hc (by rw [hd, hr]; exact h)
theorem r_quoUR {t yt : TypeId} {x y : Operand} {a b : Int} (r : Int) (hx : ρ.ev x = .int .u64 a) (hy : ρ.ev y = .int .u64 b) (h0 : 0 ≤ a) (h1 : 0 < b) (h2 : a ≤ 18446744073709551615) (hr : a / b = r) (h : K (.int .u64 r) w) : OpRuns P ρ ⟨dst, .binOp .quo t x y yt, ty, pos, aft, g⟩ w K :=
  r_quoU hx hy h0 h1 h2 (by rw [hr]; exact h)
theorem r_remR {t yt : TypeId} {x y : Operand} {a b : Int} {k : IntKind} (r : Int) (hx : ρ.ev x = .int k a) (hy : ρ.ev y = .int k b) (h0 : 0 ≤ a) (h1 : 0 < b) (hr : a % b = r) (h : K (.int k r) w) : OpRuns P ρ ⟨dst, .binOp .rem t x y yt, ty, pos, aft, g⟩ w K :=
  r_remP hx hy h0 h1 (by rw [hr]; exact h)
theorem r_convR {s d : TypeId} {us : TypeDesc} {n1 b1 n2 b2 : Nat} {z1 z2 : Value} {x : Operand} {a : Int} {k k' : IntKind} (r : Int) (hs : tinfo P s = some (us, n1, b1, z1)) (hd : tinfo P d = some (.int k', n2, b2, z2)) (hx : ρ.ev x = .int k a) (hr : k'.wrap a = r) (h : K (.int k' r) w) : OpRuns P ρ ⟨dst, .convert s d x, ty, pos, aft, g⟩ w K :=
  r_convInt hs hd hx (by rw [hr]; exact h)
theorem r_indexR {t el : TypeId} {n by_ ne be o b : Nat} {ze zv : Value} {ue : TypeDesc} {x ix : Operand} {k : IntKind} {i : Int} {len cap : Nat} (j : Nat) (ht : tinfo P t = some (.slice el, n, by_, zv)) (he : tinfo P el = some (ue, ne, be, ze))
    (hx : ρ.ev x = .slice (some ⟨b, o, none⟩) len cap) (hi : ρ.ev ix = .int k i) (hij : i = (j : Int)) (h1 : j < len) (h : K (.pointer (some ⟨b, o + j * ne, none⟩)) w) :
    OpRuns P ρ ⟨dst, .indexAddr t x ix, ty, pos, aft, g⟩ w K := by
  subst hij; exact r_indexAddrN ht he hx hi h1 h

theorem r_mkF {fn : Fn} {la lb : List Operand} {fa fb : List Value} (ha : la.map ρ.ev = fa) (hb : lb.map ρ.ev = fb) (h : K (.func fn fa.toArray fb.toArray) w) : OpRuns P ρ ⟨dst, .makeFunc fn la.toArray lb.toArray, ty, pos, aft, g⟩ w K :=
  r_makeFunc (by rw [List.map_toArray, List.map_toArray, ha, hb]; exact h)

theorem At.own_src {i b m ne : Nat} {ca : Array Value} {e : TypeId} {z : Nat × Nat} {cap : Nat} (H : Hp E M L w) (hi : At L i (pt b (.cells ca e z))) (hm : ca.size = m * ne) : srcCells w m ne (.slice (some ⟨b, 0, none⟩) m cap) ca.toList :=
  .inr ⟨b, 0, cap, ca, e, z, rfl, H.own hi, by omega, by
    rw [Nat.zero_add, ← hm]
    have : ca.extract 0 ca.size = ca := by simp
    rw [this]⟩

/-- s[:hi] -/
theorem r_slTo {t el : TypeId} {n by_ ne be : Nat} {zv ze : Value} {ue : TypeDesc} {a : Option Addr} {len cap h' : Nat} {hi : Operand} {kk : IntKind} (ht : tinfo P t = some (.slice el, n, by_, zv)) (he : tinfo P el = some (ue, ne, be, ze))
    (hx : ρ.ev x = .slice a len cap) (hhi : ρ.ev hi = .int kk (h' : Int)) (h2 : h' ≤ cap) (h : K (.slice a h' cap) w) :
    OpRuns P ρ ⟨dst, .slice t x none (some hi) none, ty, pos, aft, g⟩ w K :=
  r_sliceSl (l := 0) (h' := h') ht he hx rfl ⟨kk, hhi⟩ (Nat.zero_le _) h2 (by
    have : (if cap = 0 then a else a.map fun x => x.add (0 * ne)) = a := by
      split
      · rfl
      · cases a with
        | none => rfl
        | some x => simp [Addr.add]
    rw [this, Nat.sub_zero, Nat.sub_zero]; exact h)

/-- One row of the call's own that grows by the cells of another that it has just made. -/
theorem r_appendO {xo yo : Operand} {t el t1 : TypeId} {n by_ ne be n1 b1 : Nat} {zv ze z1 v : Value} {ue u1 : TypeDesc} {i j b m cap : Nat} {xs : List Value} {ca : Array Value} {e : TypeId} {z : Nat × Nat}
    (ht : tinfo P t = some (.slice el, n, by_, zv)) (he : tinfo P el = some (ue, ne, be, ze)) (ht1 : tinfo P t1 = some (u1, n1, b1, z1)) (hu1 : ∀ k, u1 ≠ .int k)
    (hze : ze.cells.size = ne) (hx : ρ.ev xo = v) (hy : ρ.ev yo = .slice (some ⟨b, 0, none⟩) m cap) (H : Hp E M L w) (hi : At L i (sl el ne v xs)) (hj : At L j (pt b (.cells ca e z))) (hm : ca.size = m * ne) (hone : ca.toList.all oneCell = true)
    (hne : Nat.blt 0 ne = true) (hbe : Nat.ble be 4096 = true) (hlen : xs.length / ne + m ≤ 4294967296) (h : ∀ v' w', Hp E M (L.set i (sl el ne v' (xs ++ ca.toList))) w' → K v' w') :
    OpRuns P ρ ⟨dst, .call { callee := .builtin .append, args := #[xo, yo], argTypes := #[t, t1] }, ty, pos, aft, g⟩ w K :=
  r_append ht he ht1 hu1 hze hx hy H hi (At.own_src H hj hm) hone hlen (by simpa [Nat.blt_eq] using hne) (by simpa using hbe) h
end

section
variable {P : Program} {X : FK} {LL : Option Code → Env → World → Prop} {k : List Item} {E : Ent} {ops : Array Oper}
variable {f : Nat} {D : List Nat} {ρ : Env} {M : RO} {L : List HProp} {w : World}

theorem Goes.regionD0 {id : Nat} (hm : P.follows .mixedOrders = true) (hback : backward ops = true) (f : Nat) (hH : Hp E M L w)
    (hv : Ver P X LL k E ops f [] ρ M L []) : Goes P X LL (.code (.region id ops true) :: k) ρ w :=
  Goes.regionD hm hback f (by rw [List.append_nil]; exact hH) hv
theorem Ver.fin0 (hall : (List.range ops.size).all (fun i => D.contains i) = true) (h : ∀ w, Hp E M L w → Goes P X LL k ρ w) : Ver P X LL k E ops (f + 1) D ρ M L [] :=
  Ver.fin hall fun w hw => h w (by rw [List.append_nil] at hw; exact hw)
theorem Ver.next0 {dst : Option Tmp} {op : Op} {ty : TypeId} {pos : String} {aft : Array Edge} (i : Nat) (hrd : readyL ops D = [i]) (ho : ops[i]? = some ⟨dst, op, ty, pos, aft, none⟩) (hc : (spOk ops i && dstOk X.n dst) = true)
    (h : ∀ w, Hp E M L w → OpRuns P ρ ⟨dst, op, ty, pos, aft, none⟩ w fun v w' => ∃ M', M.le M' ∧ Hp E M' L w' ∧ Ver P X LL k E ops f (i :: D) (ρ.put dst v) M' L []) :
    Ver P X LL k E ops (f + 1) D ρ M L [] :=
  Ver.next i hrd ho hc fun w hw => (h w (by rw [List.append_nil] at hw; exact hw)).mono fun v w' ⟨M', h1, h2, h3⟩ => ⟨M', [], h1, by rw [List.append_nil]; exact h2, h3⟩
theorem Ver.next0Y {dst : Option Tmp} {op : Op} {ty : TypeId} {pos : String} {aft : Array Edge} {j : Nat} {want : Bool} (i : Nat) (hrd : readyL ops D = [i]) (ho : ops[i]? = some ⟨dst, op, ty, pos, aft, some (j, want)⟩) (hc : (spOk ops i && dstOk X.n dst) = true)
    (hy : ρ.yielded ops j = some want)
    (h : ∀ w, Hp E M L w → OpRuns P ρ ⟨dst, op, ty, pos, aft, some (j, want)⟩ w fun v w' => ∃ M', M.le M' ∧ Hp E M' L w' ∧ Ver P X LL k E ops f (i :: D) (ρ.put dst v) M' L []) :
    Ver P X LL k E ops (f + 1) D ρ M L [] :=
  Ver.nextY i hrd ho hc hy fun w hw => (h w (by rw [List.append_nil] at hw; exact hw)).mono fun v w' ⟨M', h1, h2, h3⟩ => ⟨M', [], h1, by rw [List.append_nil]; exact h2, h3⟩
theorem Ver.bar0 {dst : Option Tmp} {op : Op} {ty : TypeId} {pos : String} {aft : Array Edge} (i : Nat) (hrd : readyL ops D = [i]) (ho : ops[i]? = some ⟨dst, op, ty, pos, aft, none⟩) (hc : (spOk ops i && dstOk X.n dst && D.all fun d => pre ops i d) = true)
    (h : ∀ w, Hp E M L w → OpRuns P ρ ⟨dst, op, ty, pos, aft, none⟩ w fun v w' => ∃ M' L', M.le M' ∧ Hp E M' L' w' ∧ Ver P X LL k E ops f (i :: D) (ρ.put dst v) M' L' []) :
    Ver P X LL k E ops (f + 1) D ρ M L [] :=
  Ver.bar i hrd ho hc fun w hw => (h w (by rw [List.append_nil] at hw; exact hw)).mono fun v w' ⟨M', L', h1, h2, h3⟩ => ⟨M', L', [], h1, by rw [List.append_nil]; exact h2, h3⟩
end

/-! ### Rows that are read-only -/

/-- The slice value lies in M: of its cells, from its start on, the first are xs. -/
def RoRow (M : RO) (a : Option Addr) (xs : List Value) : Prop :=
  xs = [] ∨ ∃ b o c e z, a = some ⟨b, o, none⟩ ∧ M b = some (.cells c e z) ∧ o + xs.length ≤ c.size ∧ (c.extract o (o + xs.length)).toList = xs

theorem RoRow.mono {M M' : RO} {a : Option Addr} {xs : List Value} (h : RoRow M a xs) (hM : M.le M') : RoRow M' a xs := by
  rcases h with h | ⟨b, o, c, e, z, h1, h2, h3, h4⟩
  · exact .inl h
  · exact .inr ⟨b, o, c, e, z, h1, hM _ _ h2, h3, h4⟩

theorem extract_get {c : Array Value} {o n : Nat} {xs : List Value} (hsz : o + n ≤ c.size) (h : (c.extract o (o + n)).toList = xs) {j : Nat} (hj : j < n) : c[o + j]? = xs[j]? := by
  subst h
  rw [Array.getElem?_toList, Array.getElem?_extract]
  rw [if_pos (by omega)]

theorem RoRow.take {M : RO} {a : Option Addr} {xs : List Value} (h : RoRow M a xs) (n : Nat) : RoRow M a (xs.take n) := by
  rcases h with rfl | ⟨b, o, c, e, z, h1, h2, h3, h4⟩
  · exact .inl (by simp)
  · refine .inr ⟨b, o, c, e, z, h1, h2, by rw [List.length_take]; omega, ?_⟩
    rw [← h4]
    apply List.ext_getElem?
    intro j
    simp only [List.length_take, Array.length_toList, Array.size_extract]
    rw [List.getElem?_take, Array.getElem?_toList, Array.getElem?_toList, Array.getElem?_extract, Array.getElem?_extract]
    by_cases hj : j < n
    · rw [if_pos hj]
      by_cases h5 : j < xs.length
      · rw [if_pos (by omega), if_pos (by omega)]
      · rw [if_neg (by omega), if_neg (by omega)]
    · rw [if_neg hj, if_neg (by omega)]

/-- A read of one cell of a read-only row. -/
theorem RoRow.at {M : RO} {a : Option Addr} {xs : List Value} (h : RoRow M a xs) {j : Nat} {v : Value} (hj : xs[j]? = some v) : ∃ b o c e z, a = some ⟨b, o, none⟩ ∧ M b = some (.cells c e z) ∧ c[o + j]? = some v := by
  have hlt : j < xs.length := by
    rcases Nat.lt_or_ge j xs.length with h' | h'
    · exact h'
    · rw [List.getElem?_eq_none h'] at hj; cases hj
  rcases h with rfl | ⟨b, o, c, e, z, h1, h2, h3, h4⟩
  · simp at hlt
  · exact ⟨b, o, c, e, z, h1, h2, by rw [extract_get h3 h4 hlt]; exact hj⟩

end Go.Sx
namespace Go.Sx

section
variable {E : Ent} {M : RO} {L : List HProp} {w : World}

theorem RoRow.put {M : RO} {b : Nat} {xs : List Value} {ca : Array Value} {e : TypeId} {z : Nat × Nat} (h : ca.toList.take xs.length = xs) (hl : xs.length ≤ ca.size) : RoRow (M.put b (.cells ca e z)) (some ⟨b, 0, none⟩) xs := by
  refine .inr ⟨b, 0, ca, e, z, rfl, RO.put_self _ _ _, by omega, ?_⟩
  rw [Nat.zero_add, Array.toList_extract, List.extract_eq_take_drop]
  simpa using h

/-- A row of the call's own becomes read-only. -/
theorem Hp.freezeSl {i ne : Nat} {e : TypeId} {v : Value} {xs : List Value} (H : Hp E M L w) (hi : At L i (sl e ne v xs)) :
    ∃ M' a n c, v = .slice a n c ∧ xs.length = n * ne ∧ n ≤ c ∧ RoRow M' a xs ∧ M.le M' ∧ Hp E M' (L.eraseIdx i) w := by
  obtain ⟨A, R, hc, h0, hset, her⟩ := H.focus hi
  rcases hc with ⟨rfl, rfl, rfl⟩ | ⟨b, c, len, cap, rfl, hl, hcap, hsz, hx, rfl⟩
  · exact ⟨M, none, 0, 0, rfl, by simp, Nat.le_refl _, .inl rfl, .refl _, her E M w h0⟩
  · refine ⟨M.put b (.cells c e (0, 0)), _, len, cap, rfl, hl, hcap, .put (by rw [hl]; exact hx) ?_, RO.le_put (h0.apart (b, .cells c e (0, 0)) (by simp)) _, her E _ w h0.freeze⟩
    rw [hl, hsz]; exact Nat.mul_le_mul_right _ hcap

theorem sl_fresh {e : TypeId} {ne b cap : Nat} {c : Array Value} (hsz : c.size = cap * ne) (F : Own) (h : pt b (.cells c e (0, 0)) F) : sl e ne (.slice (some ⟨b, 0, none⟩) 0 cap) [] F := by
  have := sl_of_pt (len := 0) hsz (Nat.zero_le _) F h
  simpa using this
theorem sl_whole {e : TypeId} {ne b cap : Nat} {c : Array Value} (hsz : c.size = cap * ne) (F : Own) (h : pt b (.cells c e (0, 0)) F) : sl e ne (.slice (some ⟨b, 0, none⟩) cap cap) c.toList F := by
  have := sl_of_pt (len := cap) hsz (Nat.le_refl _) F h
  rwa [List.take_of_length_le (by simp [hsz])] at this
end

section
variable {P : Program} {ρ : Env} {w : World} {K : Value → World → Prop} {dst : Option Tmp} {ty : TypeId} {pos : String} {aft : Array Edge} {g : Option (Nat × Bool)}
variable {E : Ent} {M : RO} {L : List HProp} {t : TypeId} {n by_ : Nat} {zv : Value} {x y : Operand}

theorem mk_cells {ze z : Value} (hz : ze.cells = #[z]) (cp : Nat) : (Array.range (cp * 1)).map ((if cp * 1 = 0 then #[] else ze.cells)[· % (if cp * 1 = 0 then #[] else ze.cells).size]!) = (List.replicate cp z).toArray := by
  rw [Nat.mul_one]
  by_cases h : cp = 0
  · subst h; simp
  · simp only [if_neg h, hz]
    apply Array.ext'
    rw [Array.toList_map, Array.toList_range]
    apply List.ext_getElem?
    intro i
    by_cases hi : i < cp
    · simp [hi, Nat.mod_one]
    · simp [hi, Nat.mod_one]

/-- make([]T, l, cp) of elements of one cell. -/
theorem r_mkS1 {el : TypeId} {ue : TypeDesc} {be : Nat} {ze z : Value} {k k' : IntKind} {l cp : Nat} {i j : Int} (ht : tinfo P t = some (.slice el, n, by_, zv)) (he : tinfo P el = some (ue, 1, be, ze)) (hz : ze.cells = #[z])
    (hx : ρ.ev x = .int k i) (hi : i = (l : Int)) (hy : ρ.ev y = .int k' j) (hj : j = (cp : Int)) (hl : l ≤ cp) (hbe : Nat.ble be 4096 = true) (hcp : cp ≤ 4294967296)
    (H : Hp E M L w) (h : ∀ b w', E.w.heap.size ≤ b → Hp E M (pt b (.cells (List.replicate cp z).toArray el (0, 0)) :: L) w' → K (.slice (some ⟨b, 0, none⟩) l cp) w') :
    OpRuns P ρ ⟨dst, .makeSlice t x y, ty, pos, aft, g⟩ w K := by
  subst hi hj
  refine r_makeSlice ht he hx hy hl ?_ (by omega) H fun b w' hb hH => h b w' hb (by rw [mk_cells hz] at hH; exact hH)
  have h1 : be ≤ 4096 := by simpa [Nat.ble_eq] using hbe
  have h2 : be * cp ≤ 4096 * 4294967296 := Nat.mul_le_mul h1 hcp
  have h3 : ((be * cp : Nat) : Int) ≤ ((4096 * 4294967296 : Nat) : Int) := Int.ofNat_le.2 h2
  rw [Int.natCast_mul] at h3
  omega
/-- make([]T, 0, cp) as a row that grows. -/
theorem r_mkSg {el : TypeId} {ue : TypeDesc} {be : Nat} {ze z : Value} {k k' : IntKind} {cp : Nat} {i j : Int} (ht : tinfo P t = some (.slice el, n, by_, zv)) (he : tinfo P el = some (ue, 1, be, ze)) (hz : ze.cells = #[z])
    (hx : ρ.ev x = .int k i) (hi : i = 0) (hy : ρ.ev y = .int k' j) (hj : j = (cp : Int)) (hbe : Nat.ble be 4096 = true) (hcp : cp ≤ 4294967296)
    (H : Hp E M L w) (h : ∀ v w', Hp E M (sl el 1 v [] :: L) w' → K v w') :
    OpRuns P ρ ⟨dst, .makeSlice t x y, ty, pos, aft, g⟩ w K :=
  r_mkS1 ht he hz hx (l := 0) hi hy hj (Nat.zero_le _) hbe hcp H fun b w' _ hH => h _ w' (hH.subst (i := 0) .head fun F hF => sl_fresh (c := (List.replicate cp z).toArray) (by simp) F hF)
theorem r_max2R {xo yo : Operand} {k : IntKind} {p q : Int} (r : Int) {ats : Array TypeId} (hx : ρ.ev xo = .int k p) (hy : ρ.ev yo = .int k q) (hr : max p q = r) (h : K (.int k r) w) :
    OpRuns P ρ ⟨dst, .call { callee := .builtin .max, args := #[xo, yo], argTypes := ats }, ty, pos, aft, g⟩ w K := r_max2 hx hy (by rw [hr]; exact h)
theorem r_min2R {xo yo : Operand} {k : IntKind} {p q : Int} (r : Int) {ats : Array TypeId} (hx : ρ.ev xo = .int k p) (hy : ρ.ev yo = .int k q) (hr : min p q = r) (h : K (.int k r) w) :
    OpRuns P ρ ⟨dst, .call { callee := .builtin .min, args := #[xo, yo], argTypes := ats }, ty, pos, aft, g⟩ w K := r_min2 hx hy (by rw [hr]; exact h)
theorem r_shlR {t yt : TypeId} {a b : Int} {k k' : IntKind} (r d : Int) (hx : ρ.ev x = .int k a) (hy : ρ.ev y = .int k' b) (hb : ¬ b < 0) (hd : (2 : Int) ^ (min b.toNat k.bits) = d) (hr : k.wrap (a * d) = r) (h : K (.int k r) w) : OpRuns P ρ ⟨dst, .binOp .shl t x y yt, ty, pos, aft, g⟩ w K :=
  r_shl hx hy hb (by rw [hd, hr]; exact h)
theorem r_orR {t yt : TypeId} {a b : Int} {k : IntKind} (r : Int) (hx : ρ.ev x = .int k a) (hy : ρ.ev y = .int k b) (hr : k.wrap (BitVec.ofInt k.bits a ||| BitVec.ofInt k.bits b).toNat = r) (h : K (.int k r) w) : OpRuns P ρ ⟨dst, .binOp .or t x y yt, ty, pos, aft, g⟩ w K :=
  r_or hx hy (by rw [hr]; exact h)
/-- An owned block becomes read-only for good, and its place is known. -/
theorem Hp.freezeX {i b : Nat} {o : Obj} (h : Hp E M L w) (hi : At L i (pt b o)) : ∃ M', M' b = some o ∧ M.le M' ∧ Hp E M' (L.eraseIdx i) w :=
  let ⟨h1, h2⟩ := h.freeze hi
  ⟨_, RO.put_self _ _ _, h2, h1⟩
end
end Go.Sx
namespace Go.Sx

theorem Runs.out {P : Program} {α : Type} {s : Sem α} {w : World} {K : α → World → Prop} (h : Runs P s w K) : ∃ a w', s.run P w = .ok a w' ∧ K a w' := by
  unfold Runs at h
  split at h
  · rename_i a w' hr; exact ⟨a, w', hr, h⟩
  · exact h.elim

section
variable {P : Program} {E : Ent} {M : RO} {L Lin Lr : List HProp} {w : World}

theorem Hp.setObj {i b : Nat} {o o' : Obj} (h : Hp E M L w) (hi : At L i (pt b o)) : Hp E M (L.set i (pt b o')) { w with heap := w.heap.setIfInBounds b o' } := by
  have hb := h.own hi
  have hlt : b < w.heap.size := by
    rcases Nat.lt_or_ge b w.heap.size with h' | h'
    · exact h'
    · rw [Array.getElem?_eq_none h'] at hb; cases hb
  refine h.turn hi rfl rfl rfl rfl (by simp) ?_ fun k hk => ?_
  · simp [hlt]
  · simp only [Array.getElem?_setIfInBounds]; rw [if_neg (Ne.symm hk)]

/-- The block of a loop over a function. -/
def LP (f : FuncId) (tmps : Array Value) (params : Array Tmp) (assign body : Code) (r : Nat) (st : LoopState) (pend : Option Code) : Obj :=
  .loop { state := st, pending := pend, fn := f, tmps, params, assign, body, defers := r }

theorem enterLoop_run {f : FuncId} {tmps : Array Value} {params : Array Tmp} {assign body : Code} (H : Hp E M L w) :
    ∃ l r w1, (Instr.enterLoop f tmps params assign body none).run P w = .ok (l, [{ target := .collected r, args := #[] }]) w1 ∧
      Hp E M (pt l (LP f tmps params assign body r .ready none) :: pt r (.deferred (some [])) :: L) w1 :=
  ⟨w.heap.size + 1, w.heap.size, { w with heap := (w.heap.push (.deferred (some []))).push (LP f tmps params assign body w.heap.size .ready none) }, by
    have : (w.heap.push (.deferred (some []))).size = w.heap.size + 1 := by simp
    unfold Instr.enterLoop
    simp only [Sem.run_bind]
    show (Result.ok ((w.heap.push (.deferred (some []))).size, _) _) = _
    rw [this]; rfl, by
    have := (H.alloc (.deferred (some []))).alloc (LP f tmps params assign body w.heap.size .ready none)
    simpa using this⟩

theorem run_getLoop {l : Nat} {R : Loop} (h : w.heap[l]? = some (.loop R)) : (Instr.getLoop l).run P w = .ok R w := by
  have : Runs P (Instr.getLoop l) w fun a w' => a = R ∧ w' = w := Runs.bind (Runs.getObj h (by intros; simp) (Runs.pure ⟨rfl, rfl⟩))
  obtain ⟨a, w', h1, rfl, rfl⟩ := this.out
  exact h1
theorem run_setLoop {l : Nat} {R : Loop} {o : Obj} (h : w.heap[l]? = some (.loop R)) : (Go.setObj l o).run P w = .ok () { w with heap := w.heap.setIfInBounds l o } := by
  have : Runs P (Go.setObj l o) w fun a w' => w' = { w with heap := w.heap.setIfInBounds l o } := Runs.setObj h (by intros; simp) rfl
  obtain ⟨a, w', h1, rfl⟩ := this.out
  exact h1

variable {X : FK} {LL : Option Code → Env → World → Prop} {k : List Item} {ρ : Env}

/-- A loop over a function is left. -/
theorem Goes.endRange {i l : Nat} {R : Loop} (H : Hp E M L w) (hi : At L i (pt l (.loop R))) (hst : R.state = .ready ∨ R.state = .done)
    (h : ∀ w', Hp E M (L.eraseIdx i) w' → Goes P X LL ((R.pending.map Item.code).toList ++ k) ρ w') : Goes P X LL (.endRangeFunc l :: k) ρ w := by
  have hl := H.own hi
  have hr : (Instr.endLoop l).run P w = .ok R.pending { w with heap := w.heap.setIfInBounds l (.loop { R with state := .exhausted }) } := by
    unfold Instr.endLoop
    rw [Sem.run_bind, run_getLoop hl]
    have hne : (R.state == .busy) = false := by rcases hst with h | h <;> rw [h] <;> rfl
    simp only [Result.andThen_ok, hne]
    show (do Go.setObj l _; pure R.pending : Sem _).run P w = _
    rw [Sem.run_bind, run_setLoop hl]; rfl
  have H2 : Hp E M (L.eraseIdx i) { w with heap := w.heap.setIfInBounds l (.loop { R with state := .exhausted }) } := by
    have h3 : At (L.set i (pt l (.loop { R with state := .exhausted }))) i (pt l (.loop { R with state := .exhausted })) := by
      clear hl hr H h
      generalize hc : pt l (Obj.loop R) = c at hi
      induction hi with
      | head => exact .head
      | tail _ ih => exact .tail (ih hc)
    have := (H.setObj (o' := .loop { R with state := .exhausted }) hi).drop h3
    have e : (L.set i (pt l (.loop { R with state := .exhausted }))).eraseIdx i = L.eraseIdx i := by
      clear hl hr H h h3 this
      generalize hc : pt l (Obj.loop R) = c at hi
      induction hi with
      | head => rfl
      | tail _ ih => simp [ih hc]
    rwa [e] at this
  exact .endRangeFunc hr (h _ H2)

theorem Goes.endR {i l f r : Nat} {tmps : Array Value} {ps : Array Tmp} {assign body : Code} {o : LoopState → Option Code → Obj} {st : LoopState} {p : Option Code} (ho : ∀ st p, o st p = LP f tmps ps assign body r st p) (H : Hp E M L w) (hi : At L i (pt l (o st p)))
    (hst : st = .ready ∨ st = .done) (h : ∀ w', Hp E M (L.eraseIdx i) w' → Goes P X LL ((p.map Item.code).toList ++ k) ρ w') : Goes P X LL (.endRangeFunc l :: k) ρ w := by
  rw [ho] at hi
  exact .endRange H hi hst h
theorem Goes.endN {i l f r : Nat} {tmps : Array Value} {ps : Array Tmp} {assign body : Code} {o : LoopState → Option Code → Obj} {st : LoopState} (ho : ∀ st p, o st p = LP f tmps ps assign body r st p) (H : Hp E M L w) (hi : At L i (pt l (o st none)))
    (hst : st = .ready ∨ st = .done) (h : ∀ w', Hp E M (L.eraseIdx i) w' → Goes P X LL k ρ w') : Goes P X LL (.endRangeFunc l :: k) ρ w := .endR ho H hi hst h

/-- What is asked of a yield function: called with args in a world that has Lin, it hands back b. -/
def YSp (P : Program) (l : Nat) (args : List Value) (M : RO) (Lin : List HProp) (Post : Bool → RO → List HProp → Prop) : Prop :=
  ∀ E : Ent, E.M = M → Hp E M Lin E.w → ∃ f tmps assign body, (Instr.yield l args.toArray).run P E.w = .ok (.round l f tmps assign body) E.w ∧
    Rounds P l f tmps assign body E.w fun v w' => ∃ b M' L', v = .bool b ∧ Hp E M' L' w' ∧ Post b M' L'

theorem YSp.mono {l : Nat} {args : List Value} {Post Post' : Bool → RO → List HProp → Prop} (h : YSp P l args M Lin Post) (hp : ∀ b M' L', M.le M' → Post b M' L' → Post' b M' L') : YSp P l args M Lin Post' := fun E hE hH =>
  let ⟨f, tmps, as, bd, h1, h2⟩ := h E hE hH
  ⟨f, tmps, as, bd, h1, h2.mono fun _ _ ⟨b, M', L', hv, hh, hpp⟩ => ⟨b, M', L', hv, hh, hp b M' L' (hE ▸ hh.le) hpp⟩⟩

/-- A call of a yield function. -/
theorem r_callY {K : Value → World → Prop} {dst : Option Tmp} {ty : TypeId} {pos : String} {aft : Array Edge} {g : Option (Nat × Bool)} {fo : Operand} {l : Nat} {lst : List Operand} {ats : Array TypeId} {Post : Bool → RO → List HProp → Prop}
    (hf : ρ.ev fo = .func (.yield l) #[] #[]) (hs : YSp P l (lst.map ρ.ev) M Lin Post)
    (H : Hp E M (Lin ++ Lr) w) (h : ∀ b M' L' w', M.le M' → Post b M' L' → Hp E M' (L' ++ Lr) w' → K (.bool b) w') :
    OpRuns P ρ ⟨dst, .call { callee := .value fo, args := lst.toArray, argTypes := ats }, ty, pos, aft, g⟩ w K := by
  obtain ⟨E', hw, hM, hH, hback⟩ := H.call
  subst hw
  obtain ⟨f, tmps, as, bd, hy, hR⟩ := hs E' hM hH
  have he : execOp ρ.ev ⟨dst, .call { callee := .value fo, args := lst.toArray, argTypes := ats }, ty, pos, aft, g⟩ = (do let d ← Deferred.ofValue (ρ.ev fo) (lst.toArray.map ρ.ev); invoke d.target d.args) := rfl
  unfold OpRuns
  rw [he, hf]
  have : ((do let d ← Deferred.ofValue (.func (.yield l) #[] #[]) (lst.toArray.map ρ.ev); invoke d.target d.args) : Sem Next).run P E'.w = .ok (.round l f tmps as bd) E'.w := by
    rw [← hy]
    show (Instr.yield l ((#[] ++ lst.toArray.map ρ.ev) ++ #[])).run P E'.w = _
    congr 2; simp
  rw [this]
  exact hR.mono fun v w' ⟨b, M', L', hv, hh, hp⟩ => hv ▸ h b M' L' w' (hM ▸ hh.le) hp (hback M' L' w' hh)

/-- Parameters written in turn. -/
noncomputable def Env.setps (l : List (Nat × Value)) (ρ : Env) : Env :=
  List.rec (motive := fun _ => Env → Env) (fun ρ => ρ) (fun p _ ih ρ => ih (.set p.1 p.2 ρ)) l ρ

theorem Sim.setps {n : Nat} : ∀ (ps : List (Nat × Value)) {tmps : Array Value} {ρ : Env}, Sim n ⟨tmps, []⟩ ρ → (∀ p ∈ ps, p.1 < n) →
    Sim n ⟨ps.foldl (fun tmps (p : Nat × Value) => tmps.setIfInBounds p.1 p.2) tmps, []⟩ (Env.setps ps ρ)
  | [], _, _, h, _ => h
  | p :: ps, tmps, ρ, h, hp => by
    have h1 : Sim n ⟨tmps.setIfInBounds p.1 p.2, []⟩ (.set p.1 p.2 ρ) := by
      have := h.put (dst := some p.1) (by simp [dstOk, Nat.blt_eq]; exact hp p (by simp)) p.2
      exact this
    exact Sim.setps ps h1 fun q hq => hp q (List.mem_cons_of_mem _ hq)

/-- What is owed where a round leaves. -/
def RoundOK (E : Ent) (l : Nat) (o : Obj) (Post : Option Code → RO → List HProp → Prop) (j : Option Code) (_ : Env) (w : World) : Prop :=
  ∃ M' L', Hp E M' (pt l o :: L') w ∧ Post j M' L'

theorem roundOK {o : Obj} {l : Nat} {Post : Option Code → RO → List HProp → Prop} {j : Option Code} (H : Hp E M (pt l o :: L) w) (h : Post j M L) : RoundOK E l o Post j ρ w := ⟨M, L, H, h⟩

theorem ysp_of_goes {l f n r : Nat} {tmps : Array Value} {ps : List Tmp} {assign body : Code} {o : LoopState → Option Code → Obj} (ho : ∀ st p, o st p = LP f tmps ps.toArray assign body r st p) {vs : List Value} {ρ : Env} {Post : Option Code → RO → List HProp → Prop}
    (hsim : Sim n ⟨tmps, []⟩ ρ) (hl : Nat.beq ps.length vs.length = true) (hps : ps.all (fun p => Nat.blt p n) = true)
    (h : ∀ E : Ent, E.M = M → Hp E M (pt l (o .ready none) :: Lin) E.w →
      Goes P ⟨f, n, some l⟩ (RoundOK E l (o .busy none) Post) [.code assign, .beginRound, .code body] (Env.setps (ps.zip vs) ρ) E.w) :
    YSp P l vs M (pt l (o .ready none) :: Lin) fun b M' L' =>
      ∃ j L'', b = j.isNone ∧ L' = pt l (o (if b then .ready else .done) j) :: L'' ∧ Post j M' L'' := by
  obtain rfl : o = LP f tmps ps.toArray assign body r := by funext st p; exact ho st p
  intro E hE H
  have hlen : ps.length = vs.length := Nat.eq_of_beq_eq_true hl
  have hbl := H.own .head
  refine ⟨f, (ps.zip vs).foldl (fun tmps (p : Nat × Value) => tmps.setIfInBounds p.1 p.2) tmps, assign, body, ?_, ?_⟩
  · unfold Instr.yield
    rw [Sem.run_bind, run_getLoop hbl]
    simp only [Result.andThen_ok]
    rw [if_neg (by simp [hlen])]
    show Result.ok (Next.round l f (((ps.toArray).zip vs.toArray).foldl _ tmps) assign body) E.w = _
    congr 2
    rw [List.zip_toArray, List.foldl_toArray]
  · have hs2 := Sim.setps (ps.zip vs) hsim (fun p hp => by
      have := (List.of_mem_zip hp).1
      have := List.all_eq_true.1 hps _ this
      simpa [Nat.blt_eq] using this)
    refine rounds_of_goes hs2 ?_
    refine Goes.mono (h E hE H) ?_
    rintro j ρ' w ⟨M', L', hh, hp⟩
    have hb := hh.own .head
    have hset := hh.setObj (o' := LP f tmps ps.toArray assign body r (if j.isNone then .ready else .done) j) .head
    refine ⟨_, ?_, j.isNone, M', _, rfl, hset, j, L', rfl, rfl, hp⟩
    unfold Instr.endRound
    rw [Sem.run_bind, run_getLoop hb]
    simp only [Result.andThen_ok]
    show (do Go.setObj l _; pure (Value.bool j.isNone) : Sem _).run P w = _
    rw [Sem.run_bind, run_setLoop hb]; rfl

/-- A round begins. -/
theorem Goes.beginR {l f n r f' : Nat} {tmps : Array Value} {ps : Array Tmp} {assign body : Code} {ro : Option Nat} {o : LoopState → Option Code → Obj} (hro : ro = some l) (ho : ∀ st p, o st p = LP f' tmps ps assign body r st p) (H : Hp E M (pt l (o .ready none) :: L) w)
    (h : ∀ w', Hp E M (pt l (o .busy none) :: L) w' → Goes P ⟨f, n, ro⟩ LL k ρ w') : Goes P ⟨f, n, ro⟩ LL (.beginRound :: k) ρ w := by
  obtain rfl : o = LP f' tmps ps assign body r := by funext st p; exact ho st p
  have hb := H.own .head
  have hset := H.setObj (o' := LP f' tmps ps assign body r .busy none) .head
  refine .beginRound (l := l) hro ?_ (h _ hset)
  unfold Instr.beginRound
  rw [Sem.run_bind, run_getLoop hb]
  simp only [Result.andThen_ok]
  rw [Sem.run_bind, run_setLoop hb]; rfl

/-- A loop over a function of the program's own. -/
theorem Goes.rangeS {fo : Operand} {params : Array Tmp} {assign body : Code} {g : FuncId} {caps : List Value} (hX : X.ro = none) (hf : ρ.ev fo = .func (.func g) #[] caps.toArray) (hc : callable P g = true)
    (H : Hp E M (Lin ++ Lr) w)
    (h : ∀ l r tmps (o : LoopState → Option Code → Obj), (∀ st p, o st p = LP X.f tmps params assign body r st p) → Sim X.n ⟨tmps, []⟩ (.base ρ.get) → ∃ Post, Sp P g (.func (.yield l) #[] #[] :: caps) M (pt l (o .ready none) :: Lin) Post ∧
      ∀ v M' L' w', M.le M' → Post v M' L' → Hp E M' (L' ++ pt r (.deferred (some [])) :: Lr) w' → Goes P X LL (.endRangeFunc l :: k) (.dfr r ρ) w') :
    Goes P X LL (.code (.rangeFunc fo params assign body) :: k) ρ w := by
  refine .rangeFunc hX hf (fun args w => run_callFunc hc args) fun a ha => ?_
  obtain ⟨l, r, w1, hen, H1⟩ := enterLoop_run (P := P) (f := X.f) (tmps := a.tmps) (params := params) (assign := assign) (body := body) H
  refine ⟨l, r, w1, hen, ?_⟩
  obtain ⟨Post, hs, hafter⟩ := h l r a.tmps _ (fun _ _ => rfl) ⟨rfl, ha.size, ha.get⟩
  have H2 : Hp E M ((pt l (LP X.f a.tmps params assign body r .ready none) :: Lin) ++ (pt r (.deferred (some [])) :: Lr)) w1 := by
    have h3 : Hp E M ([pt l (LP X.f a.tmps params assign body r .ready none)] ++ ([pt r (.deferred (some []))] ++ (Lin ++ Lr))) w1 := H1
    obtain ⟨A, B, h4, h5, h6⟩ := h3.app
    obtain ⟨C, D, h7, h8, rfl⟩ := Star.append.1 h5
    obtain ⟨F, G, h9, h10, rfl⟩ := Star.append.1 h8
    refine ⟨(A ++ F) ++ (C ++ G), ?_, h6.perm ?_⟩
    · refine Star.append.2 ⟨A ++ F, C ++ G, ?_, ?_, rfl⟩
      · exact (Star.append (L := [_])).2 ⟨A, F, h4, h9, rfl⟩
      · exact (Star.append (L := [_])).2 ⟨C, G, h7, h10, rfl⟩
    · rw [List.append_assoc A F, ← List.append_assoc C F G]
      refine List.Perm.append_left A ?_
      rw [← List.append_assoc F C G]
      exact List.perm_append_comm.append_right G
  obtain ⟨E', hw, hM, hH, hback⟩ := H2.call
  subst hw
  have e : (#[.func (.yield l) #[] #[]] ++ caps.toArray : Array Value) = (.func (.yield l) #[] #[] :: caps).toArray := by simp
  rw [e]
  refine (hs E' hM hH).mono ?_
  rintro en w' ⟨v, M', L', rfl, hh, hp⟩
  exact ⟨v, rfl, hafter v M' L' w' (hM ▸ hh.le) hp (hback M' L' w' hh)⟩

/-- What the loops have gathered is nothing: the frame may leave. -/
theorem takes_of : ∀ {D : List Nat} {w : World}, Hp E M (D.map (fun b => pt b (.deferred (some []))) ++ L) w → ∃ w', Takes P D w w' ∧ Hp E M L w'
  | [], w, H => ⟨w, .nil, H⟩
  | b :: D, w, H => by
    have hb := H.own (i := 0) .head
    have hset := H.setObj (o' := .deferred none) (i := 0) .head
    have H1 : Hp E M (D.map (fun b => pt b (.deferred (some []))) ++ L) { w with heap := w.heap.setIfInBounds b (.deferred none) } := hset.drop (i := 0) .head
    obtain ⟨w', ht, H2⟩ := takes_of H1
    refine ⟨w', .cons ?_ ht, H2⟩
    have : Runs P (Instr.takeDeferred b) w fun a w' => a = [] ∧ w' = { w with heap := w.heap.setIfInBounds b (.deferred none) } := by
      unfold Instr.takeDeferred
      exact .bind (.getObj hb (by intros; simp) (.bind (.setObj hb (by intros; simp) (.pure ⟨rfl, rfl⟩))))
    obtain ⟨a, w2, h1, rfl, rfl⟩ := this.out
    exact h1

section
variable {ops : Array Oper} {f : Nat} {D : List Nat}
/-! Drawn regions whose reads look at what is read-only alone. -/
theorem Goes.regionDX {id : Nat} (hm : P.follows .mixedOrders = true) (hback : backward ops = true) (f : Nat) (hH : Hp E M L w)
    (hv : Ver P X LL k E ops f [] ρ M [] L) : Goes P X LL (.code (.region id ops true) :: k) ρ w :=
  Goes.regionD hm hback f hH hv
theorem Ver.finX (hall : (List.range ops.size).all (fun i => D.contains i) = true) (h : ∀ w, Hp E M L w → Goes P X LL k ρ w) : Ver P X LL k E ops (f + 1) D ρ M [] L :=
  Ver.fin hall fun w hw => h w hw
theorem Ver.nextX {dst : Option Tmp} {op : Op} {ty : TypeId} {pos : String} {aft : Array Edge} (i : Nat) (hrd : readyL ops D = [i]) (ho : ops[i]? = some ⟨dst, op, ty, pos, aft, none⟩) (hc : (spOk ops i && dstOk X.n dst) = true)
    (h : ∀ w, Hp E M L w → OpRuns P ρ ⟨dst, op, ty, pos, aft, none⟩ w fun v w' => ∃ M' L', M.le M' ∧ Hp E M' L' w' ∧ Ver P X LL k E ops f (i :: D) (ρ.put dst v) M' [] L') :
    Ver P X LL k E ops (f + 1) D ρ M [] L := Ver.next i hrd ho hc h
theorem Ver.nextXY {dst : Option Tmp} {op : Op} {ty : TypeId} {pos : String} {aft : Array Edge} {j : Nat} {want : Bool} (i : Nat) (hrd : readyL ops D = [i]) (ho : ops[i]? = some ⟨dst, op, ty, pos, aft, some (j, want)⟩) (hc : (spOk ops i && dstOk X.n dst) = true)
    (hy : ρ.yielded ops j = some want)
    (h : ∀ w, Hp E M L w → OpRuns P ρ ⟨dst, op, ty, pos, aft, some (j, want)⟩ w fun v w' => ∃ M' L', M.le M' ∧ Hp E M' L' w' ∧ Ver P X LL k E ops f (i :: D) (ρ.put dst v) M' [] L') :
    Ver P X LL k E ops (f + 1) D ρ M [] L := Ver.nextY i hrd ho hc hy h
end

/-- A function with loops over functions leaves: what its results read is owed once these are taken. -/
theorem retD {fn : Func} {Post : Value → RO → List HProp → Prop} {j : Option Code} (hj : j = none ∨ j = some .ret) (H : Hp E M (ρ.ds.map (fun b => pt b (.deferred (some []))) ++ L) w)
    (h : ∀ w' ρ', ρ'.get = ρ.get → ρ'.ds = [] → Hp E M L w' → RetOK P fn E Post j ρ' w') : RetOK P fn E Post j ρ w := by
  obtain ⟨w', ht, H'⟩ := takes_of (P := P) H
  obtain ⟨_, w2, ht2, v, M', L', hr, hh, hp⟩ := h w' (.base ρ.get) rfl rfl H'
  have e : w2 = w' := by
    have : (Env.base ρ.get).ds = [] := rfl
    rw [this] at ht2; cases ht2; rfl
  subst e
  exact ⟨hj, _, ht, v, M', L', hr, hh, hp⟩
end
end Go.Sx
namespace Go.Sx

theorem At.set_same {α : Type} {L : List α} {i : Nat} {c : α} (h : At L i c) : L.set i c = L := by
  induction h with
  | head => rfl
  | tail _ ih => rw [List.set_cons_succ, ih]
theorem At.set_at {α : Type} {L : List α} {i : Nat} {c c' : α} (h : At L i c) : At (L.set i c') i c' := by
  induction h with
  | head => exact .head
  | tail _ ih => exact .tail ih

/-- The map value r lies read-only in M, with these entries. -/
structure MRow (P : Program) (M : RO) (kt : TypeId) (r : Option Nat) (es : List MapEntry) (ck : Nat) : Prop where
  ok : MOk P kt es ck
  lies : (r = none ∧ es = []) ∨ ∃ q, r = some q ∧ M q = some (.map es.toArray ck)

theorem MRow.mono {P : Program} {M M' : RO} {kt : TypeId} {r : Option Nat} {es : List MapEntry} {ck : Nat} (h : MRow P M kt r es ck) (hM : M.le M') : MRow P M' kt r es ck :=
  ⟨h.ok, h.lies.imp id fun ⟨q, h1, h2⟩ => ⟨q, h1, hM _ _ h2⟩⟩
theorem MRow.nil (P : Program) (M : RO) (kt : TypeId) : MRow P M kt none [] 0 := ⟨.nil _ _ _, .inl ⟨rfl, rfl⟩⟩

def itm (it : Nat) (r : Option Nat) (ck : Nat) (done : List MapEntry) : HProp :=
  match r with
  | none => pt it (.mapIter none 0 #[] 0)
  | some q => itc it q ck done

/-- What a step of a range may bring. -/
def NextOK (es done : List MapEntry) : Option MapEntry → Prop
  | none => done.Perm es
  | some e => e ∈ es ∧ e ∉ done
def nextT : Option MapEntry → Array Value
  | none => #[.bool false]
  | some e => #[.bool true, e.key, e.val]
/-- What a look-up may bring. -/
def FindOK (es : List MapEntry) (k : Value) : Option MapEntry → Prop
  | none => ∀ e ∈ es, e.key ≠ k
  | some e => e ∈ es ∧ e.key = k

/-- What is owed of the entries behind m[k] = v. -/
structure PutOK (es : List MapEntry) (k v : Value) (es' : List MapEntry) : Prop where
  new : ∃ e ∈ es', e.key = k ∧ e.val = v
  old : ∀ e ∈ es, e.key ≠ k → e ∈ es'
  only : ∀ e ∈ es', (e.key = k ∧ e.val = v) ∨ (e ∈ es ∧ e.key ≠ k)
  len : (∃ e ∈ es, e.key = k) ∧ es'.length = es.length ∨ (∀ e ∈ es, e.key ≠ k) ∧ es'.length = es.length + 1

section
variable {P : Program} {ρ : Env} {w : World} {K : Value → World → Prop} {dst : Option Tmp} {ty : TypeId} {pos : String} {aft : Array Edge} {g : Option (Nat × Bool)}
variable {E : Ent} {M : RO} {L : List HProp}
variable {t kt et : TypeId} {n by_ : Nat} {zv v : Value} {x y z : Operand} {k : Value} {i q : Nat} {es : List MapEntry} {ck : Nat} {r : Option Nat}

theorem r_rangeM (ht : tinfo P t = some (.map kt et, n, by_, zv)) (hx : ρ.ev x = .map r) (H : Hp E M L w) (hr : MRow P M kt r es ck)
    (h : ∀ it w', E.w.heap.size ≤ it → Hp E M (itm it r ck [] :: L) w' → K (.pointer (some ⟨it, 0, none⟩)) w') : OpRuns P ρ ⟨dst, .range t x, ty, pos, aft, g⟩ w K := by
  rcases hr.lies with ⟨rfl, rfl⟩ | ⟨q, rfl, hq⟩
  · exact r_rangeNil ht hx H h
  · exact r_range ht hx H (H.ro hq) h

theorem r_nextM {it : Nat} {done : List MapEntry} (hx : ρ.ev x = .pointer (some ⟨it, 0, none⟩)) (H : Hp E M L w) (hi : At L i (itm it r ck done)) (hr : MRow P M kt r es ck)
    (hd : ∀ e ∈ done, e ∈ es) (hnd : done.Nodup)
    (h : ∀ o w', NextOK es done o → Hp E M (L.set i (itm it r ck (done ++ o.toList))) w' → K (.tuple (nextT o)) w') :
    OpRuns P ρ ⟨dst, .next x false, ty, pos, aft, g⟩ w K := by
  rcases hr.lies with ⟨rfl, rfl⟩ | ⟨q, rfl, hq⟩
  · refine r_nextNil hx H hi (h none w ?_ ?_)
    · have : done = [] := List.eq_nil_iff_forall_not_mem.2 fun e he => by cases hd e he
      rw [this]; exact .refl _
    · have : L.set i (itm it none ck (done ++ (none : Option MapEntry).toList)) = L := hi.set_same
      rw [this]; exact H
  · refine r_next hx H hi (H.ro hq) hr.ok hd hnd (fun hp w' H' => h none w' hp ?_) fun e he hne w' H' => h (some e) w' ⟨he, hne⟩ H'
    have : L.set i (itm it (some q) ck (done ++ (none : Option MapEntry).toList)) = L := by
      rw [Option.toList_none, List.append_nil]; exact hi.set_same
    rw [this]; exact H'

theorem r_entryM {it : Nat} {done : List MapEntry} {e : MapEntry} (hx : ρ.ev x = .pointer (some ⟨it, 0, none⟩)) (H : Hp E M L w) (hi : At L i (itm it r ck (done ++ [e]))) (hr : MRow P M kt r es ck)
    (he : e ∈ es) (h : K (.tuple #[e.key, e.val]) w) : OpRuns P ρ ⟨dst, .entry x, ty, pos, aft, g⟩ w K := by
  rcases hr.lies with ⟨rfl, rfl⟩ | ⟨q, rfl, hq⟩
  · cases he
  · exact r_entry hx H hi (H.ro hq) hr.ok he h

theorem r_lookupW {ue : TypeDesc} {ne be : Nat} {ze : Value} (ht : tinfo P t = some (.map kt et, n, by_, zv)) (hte : tinfo P et = some (ue, ne, be, ze)) (hk : Maps.Keyed P kt)
    (hx : ρ.ev x = .map (some q)) (hy : ρ.ev y = k) (hq : w.heap[q]? = some (.map es.toArray ck)) (hm : MOk P kt es ck) (hkey : ∃ l, keyOf P kt k = some l)
    (h : ∀ o, FindOK es k o → K ((o.map (·.val)).getD ze) w) : OpRuns P ρ ⟨dst, .lookup t x y false, ty, pos, aft, g⟩ w K :=
  r_lookup (ok := false) ht hte hk hx hy hq hm hkey (fun hn => h none hn) fun e he hke => h (some e) ⟨he, hke⟩
theorem r_lookupM {ue : TypeDesc} {ne be : Nat} {ze : Value} (ht : tinfo P t = some (.map kt et, n, by_, zv)) (hte : tinfo P et = some (ue, ne, be, ze)) (hk : Maps.Keyed P kt)
    (hx : ρ.ev x = .map r) (hy : ρ.ev y = k) (H : Hp E M L w) (hr : MRow P M kt r es ck) (hkey : ∃ l, keyOf P kt k = some l)
    (h : ∀ o, FindOK es k o → K ((o.map (·.val)).getD ze) w) : OpRuns P ρ ⟨dst, .lookup t x y false, ty, pos, aft, g⟩ w K := by
  rcases hr.lies with ⟨rfl, rfl⟩ | ⟨q, rfl, hq⟩
  · exact r_lookupNil (ok := false) ht hte hk hx hy hkey (h none fun e he => by cases he)
  · exact r_lookupW ht hte hk hx hy (H.ro hq) hr.ok hkey h

/-- A look-up of which it is known what it finds. -/
theorem r_lookupO {ue : TypeDesc} {ne be : Nat} {ze : Value} {o : Option MapEntry} (ht : tinfo P t = some (.map kt et, n, by_, zv)) (hte : tinfo P et = some (ue, ne, be, ze)) (hk : Maps.Keyed P kt)
    (hx : ρ.ev x = .map (some q)) (hy : ρ.ev y = k) (hq : w.heap[q]? = some (.map es.toArray ck)) (hm : MOk P kt es ck) (hkey : ∃ l, keyOf P kt k = some l) (ho : ∀ o', FindOK es k o' → o' = o)
    (h : K ((o.map (·.val)).getD ze) w) : OpRuns P ρ ⟨dst, .lookup t x y false, ty, pos, aft, g⟩ w K :=
  r_lookupW ht hte hk hx hy hq hm hkey fun o' ho' => ho o' ho' ▸ h
theorem r_lookupMO {ue : TypeDesc} {ne be : Nat} {ze : Value} {o : Option MapEntry} (ht : tinfo P t = some (.map kt et, n, by_, zv)) (hte : tinfo P et = some (ue, ne, be, ze)) (hk : Maps.Keyed P kt)
    (hx : ρ.ev x = .map r) (hy : ρ.ev y = k) (H : Hp E M L w) (hr : MRow P M kt r es ck) (hkey : ∃ l, keyOf P kt k = some l) (ho : ∀ o', FindOK es k o' → o' = o)
    (h : K ((o.map (·.val)).getD ze) w) : OpRuns P ρ ⟨dst, .lookup t x y false, ty, pos, aft, g⟩ w K :=
  r_lookupM ht hte hk hx hy H hr hkey fun o' ho' => ho o' ho' ▸ h

theorem r_lenM (ht : tinfo P t = some (.map kt et, n, by_, zv)) (hx : ρ.ev x = .map r) (H : Hp E M L w) (hr : MRow P M kt r es ck) (h : K (.int .i64 (es.length : Int)) w) :
    OpRuns P ρ ⟨dst, .call { callee := .builtin .len, args := #[x], argTypes := #[t] }, ty, pos, aft, g⟩ w K := by
  rcases hr.lies with ⟨rfl, rfl⟩ | ⟨q, rfl, hq⟩
  · exact r_lenMap (m := 0) ht hx rfl h
  · exact r_lenMap (m := es.length) ht hx ⟨_, _, H.ro hq, by simp⟩ h

theorem r_mapPut (ht : tinfo P t = some (.map kt et, n, by_, zv)) (hk : Maps.Keyed P kt) (hx : ρ.ev x = .map (some q)) (hy : ρ.ev y = k) (hz : ρ.ev z = v)
    (H : Hp E M L w) (hi : At L i (pt q (.map es.toArray ck))) (hm : MOk P kt es ck) (hkey : ∃ l, keyOf P kt k = some l)
    (h : ∀ es' ck' w', PutOK es k v es' → MOk P kt es' ck' → Hp E M (L.set i (pt q (.map es'.toArray ck'))) w' → K undef w') :
    OpRuns P ρ ⟨dst, .mapUpdate t x y z, ty, pos, aft, g⟩ w K := by
  refine r_mapUpdate ht hk hx hy hz H hi hm hkey (fun hn w' H' => h _ _ w' ?_ (hm.push hkey hn) H') fun j e hj he w' H' => h _ _ w' ?_ (hm.set hj v) H'
  · refine ⟨⟨_, List.mem_append_right _ (List.mem_singleton.2 rfl), rfl, rfl⟩, fun e he _ => List.mem_append_left _ he, fun e he => ?_, .inr ⟨hn, by simp⟩⟩
    rcases List.mem_append.1 he with he | he
    · exact .inr ⟨he, hn e he⟩
    · obtain rfl := List.mem_singleton.1 he; exact .inl ⟨rfl, rfl⟩
  · have hje : j < es.length := by
      rcases Nat.lt_or_ge j es.length with h' | h'
      · exact h'
      · rw [List.getElem?_eq_none h'] at hj; cases hj
    have hee : es[j] = e := by rw [List.getElem?_eq_getElem hje] at hj; exact Option.some.inj hj
    refine ⟨⟨_, List.mem_set hje _, he, rfl⟩, fun x hx hne => ?_, fun x hx => ?_, .inl ⟨⟨e, List.mem_of_getElem? hj, he⟩, by simp⟩⟩
    · obtain ⟨m, hm1, hm2⟩ := List.mem_iff_getElem.1 hx
      have hmj : j ≠ m := by
        rintro rfl
        rw [hee] at hm2; subst hm2; exact hne he
      refine List.mem_iff_getElem.2 ⟨m, by simpa using hm1, ?_⟩
      rw [List.getElem_set_ne hmj]; exact hm2
    · obtain ⟨m, hm1, hm2⟩ := List.mem_iff_getElem.1 hx
      rw [List.length_set] at hm1
      by_cases hmj : j = m
      · subst hmj
        rw [List.getElem_set_self] at hm2; subst hm2; exact .inl ⟨he, rfl⟩
      · rw [List.getElem_set_ne hmj] at hm2
        subst hm2
        refine .inr ⟨List.getElem_mem hm1, fun hke => hmj ?_⟩
        have hnd := hm.nodup
        have := (List.getElem_inj (xs := es.map (·.key)) (i := j) (j := m) (h₀ := by simpa using hje) (h₁ := by simpa using hm1) hnd).1 (by simp [hee, he, hke])
        exact this
end

theorem rd_agg1 {u : TypeDesc} {c : Array Value} {i : Nat} {v : Value} (hu : aggDesc u = true) (h : c[i]? = some v) : rd u 1 c i = some (.agg #[v]) := by
  have hlt : i < c.size := by
    rcases Nat.lt_or_ge i c.size with h' | h'
    · exact h'
    · rw [Array.getElem?_eq_none h'] at h; cases h
  unfold rd
  rw [hu, if_pos rfl, if_pos (by omega)]
  congr 2
  apply Array.ext_getElem?
  intro j
  rw [Array.getElem?_extract]
  cases j with
  | zero => rw [if_pos (by omega), Nat.add_zero, h]; rfl
  | succ j => rw [if_neg (by omega)]; simp

/-- What of a map's entries has been met. -/
structure DoneOK (es done : List MapEntry) : Prop where
  sub : ∀ e ∈ done, e ∈ es
  nodup : done.Nodup
theorem DoneOK.nil (es : List MapEntry) : DoneOK es [] := ⟨by simp, by simp⟩
theorem DoneOK.push {es done : List MapEntry} {e : MapEntry} (h : DoneOK es done) (he : e ∈ es) (hne : e ∉ done) : DoneOK es (done ++ [e]) where
  sub := fun x hx => by
    rcases List.mem_append.1 hx with hx | hx
    · exact h.sub x hx
    · obtain rfl := List.mem_singleton.1 hx; exact he
  nodup := by
    rw [List.nodup_append]
    refine ⟨h.nodup, by simp, fun x hx y hy => ?_⟩
    obtain rfl := List.mem_singleton.1 hy
    intro hh; subst hh; exact hne hx
theorem len_le_of_sub {α : Type} : ∀ (l m : List α), l.Nodup → (∀ x ∈ l, x ∈ m) → l.length ≤ m.length
  | [], _, _, _ => Nat.zero_le _
  | x :: l, m, hn, hs => by
    obtain ⟨s, t, rfl⟩ := List.append_of_mem (hs x (by simp))
    rw [List.nodup_cons] at hn
    have := len_le_of_sub l (s ++ t) hn.2 fun y hy => by
      have h := hs y (by simp [hy])
      simp only [List.mem_append, List.mem_cons] at h ⊢
      rcases h with h | rfl | h
      · exact .inl h
      · exact absurd hy hn.1
      · exact .inr h
    simp at this ⊢; omega
theorem DoneOK.le {es done : List MapEntry} (h : DoneOK es done) : done.length ≤ es.length := len_le_of_sub _ _ h.nodup h.sub
theorem DoneOK.lt {es done : List MapEntry} {e : MapEntry} (h : DoneOK es done) (he : e ∈ es) (hne : e ∉ done) : es.length - (done ++ [e]).length < es.length - done.length := by
  have := (h.push he hne).le
  simp at this ⊢; omega

/-! Chunks are let go. -/
theorem Hp.sub {E : Ent} {M : RO} {L L' : List HProp} {w : World} (h : Hp E M L w) (hs : List.Sublist L' L) : Hp E M L' w := by
  obtain ⟨F, hF, h0⟩ := h
  have : ∃ F', Star L' F' ∧ List.Sublist F' F := by
    clear h0
    induction hs generalizing F with
    | slnil => exact ⟨F, hF, List.Sublist.refl _⟩
    | cons a _ ih =>
      obtain ⟨A, B, _, hB, rfl⟩ := hF
      obtain ⟨F', h1, h2⟩ := ih B hB
      exact ⟨F', h1, h2.trans (List.sublist_append_right A B)⟩
    | cons_cons a _ ih =>
      obtain ⟨A, B, hA, hB, rfl⟩ := hF
      obtain ⟨F', h1, h2⟩ := ih B hB
      exact ⟨A ++ F', ⟨A, F', hA, h1, rfl⟩, h2.append_left A⟩
  obtain ⟨F', h1, h2⟩ := this
  exact ⟨F', h1, h0.sub h2⟩

end Go.Sx
namespace Go.Sx
open Go.Sort

def RO.none : RO := fun _ => Option.none

/-- Nothing is asked of a world. -/
theorem Hp.any (W : World) : Hp ⟨W, [], RO.none, true⟩ RO.none [] W :=
  ⟨[], rfl, { os := rfl, tape := rfl, output := rfl, drew := fun _ => Nat.le_refl _, size := Nat.le_refl _, frame := fun _ _ _ => rfl, le := .refl _, fresh := fun b hb => absurd rfl hb, ro := (fun b o h => by cases h), own := by simp, nodup := by simp, apart := by simp, new := by simp }⟩

/-- What is left of a call to which nothing was handed: the world has grown, and no more. -/
theorem Hp.grown_of {W w' : World} {M M' : RO} {L' : List HProp} (H : Hp ⟨W, [], M, true⟩ M' L' w') : ∃ q os, w' = grow (W.drewN q) os := by
  obtain ⟨F, _, h⟩ := H
  refine ⟨w'.drawn - W.drawn, w'.heap.extract W.heap.size w'.heap.size, ?_⟩
  have hd : W.drawn ≤ w'.drawn := h.drew rfl
  have hs : W.heap.size ≤ w'.heap.size := h.size
  have hh : w'.heap = W.heap ++ w'.heap.extract W.heap.size w'.heap.size := by
    apply Array.ext_getElem?
    intro j
    rw [Array.getElem?_append]
    by_cases hj : j < W.heap.size
    · rw [if_pos hj]
      exact h.frame j hj (by simp)
    · rw [if_neg hj, Array.getElem?_extract]
      by_cases hj2 : j < w'.heap.size
      · rw [if_pos (by omega)]; congr 1; omega
      · rw [if_neg (by omega)]; exact Array.getElem?_eq_none (by omega)
  have e1 : w'.os = W.os := h.os
  have e2 : w'.tape = W.tape := h.tape
  have e3 : w'.output = W.output := h.output
  cases w' with
  | mk heap tape drawn os output =>
    simp only at hd hs hh e1 e2 e3
    simp only [grow, World.drewN]
    rw [← hh, e1, e2, e3]
    congr 1; omega

theorem Sp.grows {P : Program} {f : FuncId} {args : List Value} {Post : Value → RO → List HProp → Prop} (h : Sp P f args RO.none [] Post) (W : World) :
    Calls P f args.toArray W fun e w' => ∃ v M' L', e = .returned v ∧ Post v M' L' ∧ ∃ q os, w' = grow (W.drewN q) os :=
  (h ⟨W, [], RO.none, true⟩ rfl (Hp.any W)).mono fun _ _ ⟨v, M', L', he, hh, hp⟩ => ⟨v, M', L', he, hp, hh.grown_of⟩

section
variable {E : Ent} {M : RO} {L : List HProp} {w : World}
theorem Hp.grow (H : Hp E M L w) (os : Array Obj) : Hp E M L (Go.Sort.grow w os) := by
  obtain ⟨l⟩ := os
  induction l generalizing w with
  | nil =>
    have : Go.Sort.grow w ⟨[]⟩ = w := by simp [Go.Sort.grow]
    rw [this]; exact H
  | cons o l ih =>
    have h1 : Hp E M L { w with heap := w.heap.push o } := (H.alloc o).drop (i := 0) .head
    have h2 := ih h1
    have : Go.Sort.grow { w with heap := w.heap.push o } ⟨l⟩ = Go.Sort.grow w ⟨o :: l⟩ := by
      simp [Go.Sort.grow]
    rw [← this]; exact h2
theorem Hp.ahead (H : Hp E M L w) (n : Nat) : Hp E M L (Go.Sort.ahead w n) := H.draw _ (Nat.le_add_right _ _)
end

/-! Contracts that are said without the count of draws (the kit's 'Below'). -/
def Sp0 (P : Program) (f : FuncId) (args : List Value) (M : RO) (Lin : List HProp) (Post : Value → RO → List HProp → Prop) : Prop :=
  ∀ E : Ent, E.dr = false → E.M = M → Hp E M Lin E.w → Calls P f args.toArray E.w fun e w' => ∃ v M' L', e = .returned v ∧ Hp E M' L' w' ∧ Post v M' L'

theorem Sp.to0 {P : Program} {f : FuncId} {args : List Value} {M : RO} {Lin : List HProp} {Post : Value → RO → List HProp → Prop} (h : Sp P f args M Lin Post) : Sp0 P f args M Lin Post := fun E _ => h E
theorem Sp0.mono {P : Program} {f : FuncId} {args : List Value} {M : RO} {Lin : List HProp} {Post Post' : Value → RO → List HProp → Prop} (h : Sp0 P f args M Lin Post)
    (hp : ∀ v M' L', M.le M' → Post v M' L' → Post' v M' L') : Sp0 P f args M Lin Post' := fun E hd hE hH =>
  (h E hd hE hH).mono fun _ _ ⟨v, M', L', he, hh, hpost⟩ => ⟨v, M', L', he, hh, hp v M' L' (hE ▸ hh.le) hpost⟩

theorem Hp.below {E : Ent} {M : RO} {L : List HProp} {w w' : World} (hdr : E.dr = false) (H : Hp E M L w) (hb : Go.RowKit.Below w.heap.size w w') : Hp E M L w' := by
  obtain ⟨F, hs, h⟩ := H
  exact ⟨F, hs, { os := hb.os.trans h.os, tape := hb.tape.trans h.tape, output := hb.output.trans h.output, drew := fun hd => by rw [hdr] at hd; cases hd
                  size := Nat.le_trans h.size hb.size
                  frame := fun b hlt hS => by rw [hb.block b (Nat.lt_of_lt_of_le hlt h.size)]; exact h.frame b hlt hS
                  le := h.le, fresh := h.fresh
                  ro := fun b o hM => by rw [hb.block b (h.ro_lt hM)]; exact h.ro b o hM
                  own := fun p hp => by rw [hb.block p.1 (h.lt hp)]; exact h.own p hp
                  nodup := h.nodup, apart := h.apart, new := h.new }⟩

section
variable {P : Program} {ρ : Env} {w : World} {K : Value → World → Prop} {dst : Option Tmp} {ty : TypeId} {pos : String} {aft : Array Edge} {g : Option (Nat × Bool)}
variable {E : Ent} {M : RO} {L Lin Lr : List HProp}

theorem r_call0 {f : FuncId} {l : List Operand} {ats : Array TypeId} {Post : Value → RO → List HProp → Prop} (hdr : E.dr = false) (hc : callable P f = true) (hs : Sp0 P f (l.map ρ.ev) M Lin Post)
    (H : Hp E M (Lin ++ Lr) w) (h : ∀ v M' L' w', M.le M' → Post v M' L' → Hp E M' (L' ++ Lr) w' → K v w') :
    OpRuns P ρ ⟨dst, .call { callee := .value (.func f), args := l.toArray, argTypes := ats }, ty, pos, aft, g⟩ w K := by
  obtain ⟨E', hd, hw, hM, hH, hback⟩ := H.callD
  subst hw
  refine r_callK hc (hs E' (hd.trans hdr) hM hH) ?_
  rintro e w' ⟨v, M', L', rfl, hh, hp⟩
  exact ⟨v, rfl, h v M' L' w' (hM ▸ hh.le) hp (hback M' L' w' hh)⟩

/-- A call of the kit's own contract, that hands nothing back but a value and a world that is as it was below its end. -/
theorem r_callB {f : FuncId} {l : List Operand} {ats : Array TypeId} {v : Value} (hdr : E.dr = false) (hc : callable P f = true) (H : Hp E M L w)
    (hs : Calls P f (l.map ρ.ev).toArray w fun e w' => e = .returned v ∧ Go.RowKit.Below w.heap.size w w') (h : ∀ w', Hp E M L w' → K v w') :
    OpRuns P ρ ⟨dst, .call { callee := .value (.func f), args := l.toArray, argTypes := ats }, ty, pos, aft, g⟩ w K :=
  r_callK hc hs fun _ w' ⟨he, hb⟩ => ⟨v, he, h w' (H.below hdr hb)⟩
end

theorem Sp0.enter {P : Program} {f n : Nat} {fn : Func} {c : Code} {args : List Value} {M : RO} {Lin : List HProp} {Post : Value → RO → List HProp → Prop} (hf : P.funcs[f]? = some fn) (hb : fn.body = some c) (hnt : fn.ntmps = n) (hn : Nat.ble args.length n = true)
    (h : ∀ E : Ent, E.dr = false → E.M = M → Hp E M Lin E.w → Goes P ⟨f, n, none⟩ (RetOK P fn E Post) [.code c] (Env.args args) E.w) : Sp0 P f args M Lin Post := by
  intro E hdr hE hH
  subst hnt
  refine (calls_of_goes (R := fun v w' => ∃ M' L', Hp E M' L' w' ∧ Post v M' L') hf hb (by simpa using hn) ((h E hdr hE hH).mono ?_)).mono ?_
  · rintro j ρ w₀ ⟨hj, w, hd, v, M', L', hv, hh, hp⟩
    exact ⟨hj, w, hd, v, hv, M', L', hh, hp⟩
  · rintro e w' ⟨v, rfl, M', L', hh, hp⟩
    exact ⟨v, M', L', rfl, hh, hp⟩

/-- a[:hi] of an array variable. -/
theorem r_sliceAr {P : Program} {ρ : Env} {w : World} {K : Value → World → Prop} {dst : Option Tmp} {ty : TypeId} {pos : String} {aft : Array Edge} {g : Option (Nat × Bool)}
    {t el : TypeId} {n by_ ne be len b o h' : Nat} {zv ze : Value} {ue : TypeDesc} {x hi : Operand} {kk : IntKind} (ht : tinfo P t = some (.array len el, n, by_, zv)) (he : tinfo P el = some (ue, ne, be, ze))
    (hx : ρ.ev x = .pointer (some ⟨b, o, none⟩)) (hhi : ρ.ev hi = .int kk (h' : Int)) (h2 : h' ≤ len) (h : K (.slice (some ⟨b, o, none⟩) h' len) w) :
    OpRuns P ρ ⟨dst, .slice t x none (some hi) none, ty, pos, aft, g⟩ w K := by
  refine .ofV (s := Instr.sliceAt t (ρ.ev x) none (some (ρ.ev hi)) none) rfl ?_
  rw [hx, hhi]; unfold Instr.sliceAt
  refine .bind (.underlying ht ?_)
  refine .bind (.pure ?_)
  unfold Instr.sliceBounds Instr.sliceBound
  refine .bind (.bind (.pure (.bind (.bind (.pure ?_)))))
  simp only
  rw [if_pos (by omega)]
  refine .pure (.bind (.pure (.pure (.bind (.sizeOf he ?_)))))
  have : (if len = 0 then (⟨b, o, none⟩ : Addr) else Addr.add ⟨b, o, none⟩ (0 * ne)) = ⟨b, o, none⟩ := by
    split
    · rfl
    · simp [Addr.add]
  rw [this, Nat.sub_zero, Nat.sub_zero, Int.toNat_natCast]
  exact .pure h
end Go.Sx
namespace Go.Sx

def bv (c : UInt8) : Value := .int .u8 (c.toNat : Int)

theorem r_bytesStr {P : Program} {ρ : Env} {w : World} {K : Value → World → Prop} {dst : Option Tmp} {ty : TypeId} {pos : String} {aft : Array Edge} {g : Option (Nat × Bool)} {s d el : TypeId}
    {n1 b1 n2 b2 n3 b3 : Nat} {z1 z2 z3 : Value} {x : Operand} {b o cap len : Nat} {c : Array Value} {e : TypeId} {z : Nat × Nat} {bs : List UInt8}
    (hs : tinfo P s = some (.slice el, n1, b1, z1)) (he : tinfo P el = some (.int .u8, n2, b2, z2)) (hd : tinfo P d = some (.string, n3, b3, z3))
    (hx : ρ.ev x = .slice (some ⟨b, o, none⟩) len cap) (hb : w.heap[b]? = some (.cells c e z)) (hl : bs.length = len) (hc : (c.extract o (o + len)).toList = bs.map bv) (hsz : o + len ≤ c.size)
    (h : K (.string ⟨bs.toArray⟩) w) : OpRuns P ρ ⟨dst, .convert s d x, ty, pos, aft, g⟩ w K := by
  refine .ofV (s := Go.convert s d (ρ.ev x)) rfl ?_
  rw [hx]
  subst hl
  have hrun : (loadCells ⟨b, o, none⟩ bs.length).run P w = .ok ((bs.map fun c => (c.toNat : Int)).map (Value.int .u8)).toArray w := by
    rw [run_loadCells hb hsz]
    congr 1
    rw [← Array.toList_inj, hc]; simp [bv, Function.comp_def]
  have := run_convert_bytes_string w s d el (some ⟨b, o, none⟩) bs.length cap (tinfo_parts hs).1 (tinfo_parts he).1 (tinfo_parts hd).1
  rw [run_bytesToString w _ bs.length cap _ hrun, foldl_push_bytes] at this
  refine .of_eq this ?_
  have e1 : (ByteArray.empty.data ++ ((bs.map fun c => (c.toNat : Int)).map fun n => UInt8.ofNat n.toNat).toArray) = bs.toArray := by
    have : (ByteArray.empty).data = #[] := rfl
    rw [this, List.map_map]
    have h2 : ((fun (n : Int) => UInt8.ofNat n.toNat) ∘ fun (c : UInt8) => (c.toNat : Int)) = id := by
      funext c; simp
    rw [h2]; simp
  rw [e1]; exact h

theorem Hp.bytesWorld {E : Ent} {M : RO} {L : List HProp} {w : World} (H : Hp E M L w) (e : TypeId) (s : ByteArray) :
    ∃ z, Hp E M (pt w.heap.size (.cells (Lib.bytesCells w e s) e z) :: L) (Lib.bytesWorld w e s) := by
  have h1 := (H.draw (w.drawn + 1) (Nat.le_succ _)).alloc (.cells (Lib.bytesCells w e s) e)
  refine ⟨((Lib.bytesCells w e s).size, (Lib.bytesCells w e s).size + 1), ?_⟩
  refine h1.turn .head rfl rfl rfl rfl ?_ ?_ ?_
  · rw [Lib.bytesWorld_size]; simp
  · exact Lib.bytesWorld_at_new w e s
  · intro k hk
    have hk' : k ≠ w.heap.size := hk
    rcases Nat.lt_or_ge k w.heap.size with h | h
    · rw [Lib.bytesWorld_at_old w e s k h]
      show _ = (w.heap.push _)[k]?
      rw [Array.getElem?_push, if_neg (by omega)]
    · rw [Array.getElem?_eq_none (by rw [Lib.bytesWorld_size]; omega)]
      show _ = (w.heap.push _)[k]?
      rw [Array.getElem?_eq_none (by simp; omega)]

theorem r_strBytes {P : Program} {ρ : Env} {w : World} {K : Value → World → Prop} {dst : Option Tmp} {ty : TypeId} {pos : String} {aft : Array Edge} {g : Option (Nat × Bool)} {s d el : TypeId}
    {E : Ent} {M : RO} {L : List HProp} {us : TypeDesc} {n1 b1 n2 b2 n3 b3 : Nat} {z1 z2 z3 : Value} {x : Operand} {a : List UInt8}
    (hs : tinfo P s = some (us, n1, b1, z1)) (hd : tinfo P d = some (.slice el, n2, b2, z2)) (he : tinfo P el = some (.int .u8, n3, b3, z3)) (hx : ρ.ev x = .string ⟨a.toArray⟩) (H : Hp E M L w)
    (h : ∀ (b : Nat) (w' : World) (c : Array Value) (z : Nat × Nat) (cap : Nat), E.w.heap.size ≤ b → (∀ (j : Nat) (y : UInt8), a[j]? = some y → c[j]? = some (bv y)) → Hp E M (pt b (.cells c el z) :: L) w' → K (.slice (some ⟨b, 0, none⟩) a.length cap) w') :
    OpRuns P ρ ⟨dst, .convert s d x, ty, pos, aft, g⟩ w K := by
  refine .ofV (s := Go.convert s d (ρ.ev x)) rfl ?_
  rw [hx]
  have := Lib.run_convert_string_bytes w s d el ⟨a.toArray⟩ (tinfo_parts hs).1 (tinfo_parts hd).1 (tinfo_parts he).1
  obtain ⟨z, H2⟩ := H.bytesWorld el ⟨a.toArray⟩
  refine .of_eq this ?_
  have hsz : (⟨a.toArray⟩ : ByteArray).size = a.length := by simp [ByteArray.size]
  rw [hsz]
  refine h _ _ _ z _ H.ent_size (fun j y hj => ?_) H2
  have hjl : j < a.length := by
    rcases Nat.lt_or_ge j a.length with h' | h'
    · exact h'
    · rw [List.getElem?_eq_none h'] at hj; cases hj
  unfold Lib.bytesCells
  rw [Array.getElem?_append, if_pos (by simpa using hjl)]
  simp [bv, hj]

theorem bv_set (bs : List UInt8) (j : Nat) (c : UInt8) : (bs.map bv).toArray.setIfInBounds j (bv c) = ((bs.set j c).map bv).toArray := by
  rw [List.setIfInBounds_toArray, List.map_set]
end Go.Sx
namespace Go.Sx

section
variable {P : Program} {ρ : Env} {w : World} {K : Value → World → Prop} {dst : Option Tmp} {ty : TypeId} {pos : String} {aft : Array Edge} {g : Option (Nat × Bool)}
variable {E : Ent} {M : RO} {L : List HProp}
variable {t : TypeId} {u : TypeDesc} {n by_ : Nat} {zv v : Value} {x y : Operand} {b o i : Nat} {e : TypeId} {xs : List Value} {ne len cap : Nat} {a : Option Addr}

/-- What an owned row is made of. -/
theorem Hp.slOpen {v : Value} (H : Hp E M L w) (hi : At L i (sl e ne v xs)) :
    (v = .slice none 0 0 ∧ xs = []) ∨ ∃ b c len cap, v = .slice (some ⟨b, 0, none⟩) len cap ∧ xs.length = len * ne ∧ len ≤ cap ∧ c.size = cap * ne ∧ c.toList.take (len * ne) = xs ∧ Hp E M (L.set i (pt b (.cells c e (0, 0)))) w := by
  obtain ⟨A, R, hc, h0, hset, _⟩ := H.focus hi
  rcases hc with ⟨rfl, rfl, rfl⟩ | ⟨b, c, len, cap, rfl, hl, hcap, hsz, htk, rfl⟩
  · exact .inl ⟨rfl, rfl⟩
  · exact .inr ⟨b, c, len, cap, rfl, hl, hcap, hsz, htk, hset E M w (pt b (.cells c e (0, 0))) _ rfl h0⟩

/-- The slice value of an owned row. -/
theorem Hp.slShape {v : Value} (H : Hp E M L w) (hi : At L i (sl e ne v xs)) : ∃ a len cap, v = .slice a len cap ∧ xs.length = len * ne ∧ len ≤ cap ∧ (0 < len → ∃ b, a = some ⟨b, 0, none⟩) := by
  rcases H.slOpen hi with ⟨rfl, rfl⟩ | ⟨b, c, len, cap, rfl, h1, h2, _⟩
  · exact ⟨none, 0, 0, rfl, by simp, Nat.le_refl _, fun h => absurd h (by decide)⟩
  · exact ⟨some ⟨b, 0, none⟩, len, cap, rfl, h1, h2, fun _ => ⟨b, rfl⟩⟩

theorem Hp.slCell (H : Hp E M L w) (hi : At L i (sl e ne (.slice (some ⟨b, 0, none⟩) len cap) xs)) : ∃ c, w.heap[b]? = some (.cells c e (0, 0)) ∧ ∀ j, j < xs.length → c[j]? = xs[j]? := by
  rcases H.slOpen hi with ⟨h, _⟩ | ⟨b', c, len', cap', h, h1, h2, h3, h4, H'⟩
  · cases h
  · cases h
    refine ⟨c, H'.own hi.set_at, fun j hj => ?_⟩
    rw [← h4, List.getElem?_take, if_pos (by omega), Array.getElem?_toList]

/-- A cell of an owned row is read. -/
theorem r_ldSl (ht : tinfo P t = some (u, n, by_, zv)) (hx : ρ.ev x = .pointer (some ⟨b, o, none⟩)) (H : Hp E M L w) (hi : At L i (sl e ne (.slice (some ⟨b, 0, none⟩) len cap) xs))
    (hu : aggDesc u = false) (hv : xs[o]? = some v) (h : K v w) : OpRuns P ρ ⟨dst, .load t x, ty, pos, aft, g⟩ w K := by
  obtain ⟨c, hb, hc⟩ := H.slCell hi
  refine r_load ht hx hb ?_ h
  have ho : o < xs.length := by
    rcases Nat.lt_or_ge o xs.length with h' | h'
    · exact h'
    · rw [List.getElem?_eq_none h'] at hv; cases hv
  unfold rd
  rw [hu, hc o ho, hv]; rfl

/-- A cell of an owned row is written. -/
theorem r_stSl (ht : tinfo P t = some (u, 1, by_, zv)) (hx : ρ.ev x = .pointer (some ⟨b, o, none⟩)) (hy : ρ.ev y = v) (H : Hp E M L w) (hi : At L i (sl e ne (.slice (some ⟨b, 0, none⟩) len cap) xs))
    (hone : oneCell v = true) (ho : o < xs.length) (h : ∀ w', Hp E M (L.set i (sl e ne (.slice (some ⟨b, 0, none⟩) len cap) (xs.set o v))) w' → K undef w') :
    OpRuns P ρ ⟨dst, .store t x y, ty, pos, aft, g⟩ w K := by
  rcases H.slOpen hi with ⟨h', _⟩ | ⟨b', c, len', cap', h', h1, h2, h3, h4, H'⟩
  · cases h'
  · cases h'
    have hsz : o < c.size := by
      have : len * ne ≤ cap * ne := Nat.mul_le_mul_right _ h2
      omega
    refine r_store1 ht hx hy H' hi.set_at hone hsz fun w' hw' => h w' ?_
    have := hw'.subst (hi.set_at).set_at (c' := sl e ne (.slice (some ⟨b, 0, none⟩) len cap) (xs.set o v)) fun F hF => ?_
    · simpa using this
    · refine .inr ⟨b, _, len, cap, rfl, by rw [List.length_set]; exact h1, h2, by simpa using h3, ?_, hF⟩
      rw [Array.toList_setIfInBounds, ← h4, List.take_set]

/-- The row as a source of append. -/
theorem srcCells.ro {m cap : Nat} (H : Hp E M L w) (hr : RoRow M a xs) (hl : xs.length = m * ne) (hne : 0 < ne) : srcCells w m ne (.slice a m cap) xs := by
  rcases hr with rfl | ⟨b, o, c, e, z, rfl, hM, hsz, hx⟩
  · refine .inl ⟨a, cap, rfl, ?_, rfl⟩
    rcases Nat.eq_zero_or_pos m with h | h
    · exact h
    · have : 0 < m * ne := Nat.mul_pos h hne
      simp at hl; omega
  · exact .inr ⟨b, o, cap, c, e, z, rfl, H.ro hM, by omega, by rw [← hl]; exact hx⟩
theorem srcCells.own {v : Value} (H : Hp E M L w) (hi : At L i (sl e ne v xs)) : ∃ m, xs.length = m * ne ∧ srcCells w m ne v xs := by
  rcases H.slOpen hi with ⟨rfl, rfl⟩ | ⟨b, c, len, cap, rfl, h1, h2, h3, h4, H'⟩
  · exact ⟨0, by simp, .inl ⟨none, 0, rfl, rfl, rfl⟩⟩
  · have hsz : len * ne ≤ cap * ne := Nat.mul_le_mul_right _ h2
    refine ⟨len, h1, .inr ⟨b, 0, cap, c, e, (0, 0), rfl, H'.own hi.set_at, by omega, ?_⟩⟩
    rw [Nat.zero_add, ← h4]; simp

theorem RoRow.drop {xs : List Value} {len cap l : Nat} (hr : RoRow M a xs) (hl : xs.length = len * ne) (h1 : l ≤ len) (h2 : len ≤ cap) : RoRow M (if cap = l then a else a.map (·.add (l * ne))) (xs.drop (l * ne)) := by
  rcases hr with rfl | ⟨b, o, c, e, z, rfl, hM, hsz, hx⟩
  · exact .inl (by simp)
  · by_cases hc : cap = l
    · refine .inl ?_
      have : l = len := by omega
      subst this
      rw [← hl, List.drop_length]
    · rw [if_neg hc]
      have hll : l * ne ≤ len * ne := Nat.mul_le_mul_right _ h1
      refine .inr ⟨b, o + l * ne, c, e, z, by simp [addr_add], hM, by rw [List.length_drop]; omega, ?_⟩
      conv => rhs; rw [← hx]
      apply List.ext_getElem?
      intro j
      rw [List.getElem?_drop, Array.getElem?_toList, Array.getElem?_toList, Array.getElem?_extract, Array.getElem?_extract]
      rw [List.length_drop]
      by_cases hj : j < len * ne - l * ne
      · rw [if_pos (by omega), if_pos (by omega)]; congr 1; omega
      · rw [if_neg (by omega), if_neg (by omega)]

/-- a[l:] of a row that is read-only. -/
theorem r_slFromRo {el : TypeId} {ue : TypeDesc} {be : Nat} {ze : Value} {lo : Operand} {l : Nat} {kk : IntKind} (ht : tinfo P t = some (.slice el, n, by_, zv)) (he : tinfo P el = some (ue, ne, be, ze))
    (hx : ρ.ev x = .slice a len cap) (hlo : ρ.ev lo = .int kk (l : Int)) (h1 : l ≤ len) (h2 : len ≤ cap) (hr : RoRow M a xs) (hl : xs.length = len * ne)
    (h : ∀ a', RoRow M a' (xs.drop (l * ne)) → K (.slice a' (len - l) (cap - l)) w) :
    OpRuns P ρ ⟨dst, .slice t x (some lo) none none, ty, pos, aft, g⟩ w K :=
  r_sliceSl (lo := some lo) (hi := none) (l := l) (h' := len) ht he hx ⟨kk, hlo⟩ rfl h1 h2 (h _ (hr.drop hl h1 h2))
end

theorem rd_aggE {u : TypeDesc} {n o : Nat} {c x : Array Value} (hu : aggDesc u = true) (hs : o + n ≤ c.size) (hx : c.extract o (o + n) = x) : rd u n c o = some (.agg x) := by
  unfold rd
  rw [if_pos hu, if_pos hs, hx]
theorem Over.of_strip2 {ws : List Nat} {ρ ρ' : Env} (h : ((ρ'.strip ws).bind fun a => a.strip ws) = some ρ) : Over ws ρ ρ' := by
  obtain ⟨a, h1, h2⟩ := Option.bind_eq_some_iff.1 h
  have o1 := Over.of_strip h1
  have o2 := Over.of_strip h2
  exact ⟨fun i hi => (o1.1 i hi).trans (o2.1 i hi), o1.2.trans o2.2⟩

/-- Ways that meet again, by the slots that they write; some of which are read before (S0). -/
theorem Goes.cutT {P : Program} {X : FK} {L : Option Code → Env → World → Prop} {k : List Item} {ρ : Env} {w : World} {α : Type} {c : Code} (ws : List Nat) (S0 : List (Nat × Value)) (S : α → List (Nat × Value)) (I : α → World → Prop) (h0 : Agree ρ S0)
    (after : ∀ x f w, I x w → Goes P X L k (Env.sets (S x) (.hav ws f ρ)) w)
    (h : ∀ f, (∀ x ρ' w', Agree ρ' (S x) → Over ws ρ ρ' → I x w' → Goes P X L k ρ' w') → Goes P X L (.code c :: k) (Env.sets S0 (.hav ws f ρ)) w) : Goes P X L (.code c :: k) ρ w := by
  have key := h ρ.get fun x ρ' w' h1 h2 h3 => by
    obtain ⟨g1, g2⟩ := sets_get h2 (S x) h1
    exact (after x ρ'.get w' h3).congr g1 g2
  obtain ⟨g1, g2⟩ := sets_get (ρ' := ρ) (Over.refl ws ρ) S0 h0
  exact Goes.congr g1 g2 key

section
variable {P : Program} {X : FK} {LL : Option Code → Env → World → Prop} {k : List Item} {E : Ent} {ops : Array Oper}
variable {f : Nat} {D : List Nat} {ρ : Env} {M : RO} {L : List HProp} {w : World}

theorem Ver.nextsX2 (i j : Nat) {oi oj : Oper} (hrd : readyL ops D = [i, j]) (hi : ops[i]? = some oi) (hj : ops[j]? = some oj) (hci : (spOk ops i && dstOk X.n oi.dst) = true) (hcj : (spOk ops j && dstOk X.n oj.dst) = true)
    (gi : oi.guard = none) (gj : oj.guard = none)
    (h1 : ∀ w, Hp E M L w → OpRuns P ρ oi w fun v w' => ∃ M' L', M.le M' ∧ Hp E M' L' w' ∧ Ver P X LL k E ops f (i :: D) (ρ.put oi.dst v) M' [] L')
    (h2 : ∀ w, Hp E M L w → OpRuns P ρ oj w fun v w' => ∃ M' L', M.le M' ∧ Hp E M' L' w' ∧ Ver P X LL k E ops f (j :: D) (ρ.put oj.dst v) M' [] L') :
    Ver P X LL k E ops (f + 1) D ρ M [] L := by
  refine Ver.nexts hrd (by simp) fun x hx => ?_
  rcases List.mem_cons.1 hx with rfl | hx
  · exact ⟨oi, hi, hci, gi, h1⟩
  · obtain rfl := List.mem_singleton.1 hx
    exact ⟨oj, hj, hcj, gj, h2⟩
theorem Ver.nextsX3 (i j m : Nat) {oi oj om : Oper} (hrd : readyL ops D = [i, j, m]) (hi : ops[i]? = some oi) (hj : ops[j]? = some oj) (hm : ops[m]? = some om) (hci : (spOk ops i && dstOk X.n oi.dst) = true) (hcj : (spOk ops j && dstOk X.n oj.dst) = true) (hcm : (spOk ops m && dstOk X.n om.dst) = true)
    (gi : oi.guard = none) (gj : oj.guard = none) (gm : om.guard = none)
    (h1 : ∀ w, Hp E M L w → OpRuns P ρ oi w fun v w' => ∃ M' L', M.le M' ∧ Hp E M' L' w' ∧ Ver P X LL k E ops f (i :: D) (ρ.put oi.dst v) M' [] L')
    (h2 : ∀ w, Hp E M L w → OpRuns P ρ oj w fun v w' => ∃ M' L', M.le M' ∧ Hp E M' L' w' ∧ Ver P X LL k E ops f (j :: D) (ρ.put oj.dst v) M' [] L')
    (h3 : ∀ w, Hp E M L w → OpRuns P ρ om w fun v w' => ∃ M' L', M.le M' ∧ Hp E M' L' w' ∧ Ver P X LL k E ops f (m :: D) (ρ.put om.dst v) M' [] L') :
    Ver P X LL k E ops (f + 1) D ρ M [] L := by
  refine Ver.nexts hrd (by simp) fun x hx => ?_
  rcases List.mem_cons.1 hx with rfl | hx
  · exact ⟨oi, hi, hci, gi, h1⟩
  · rcases List.mem_cons.1 hx with rfl | hx
    · exact ⟨oj, hj, hcj, gj, h2⟩
    · obtain rfl := List.mem_singleton.1 hx
      exact ⟨om, hm, hcm, gm, h3⟩
end
end Go.Sx
