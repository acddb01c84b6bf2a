/-
  What the cards have in common: an argument reads as terms, the listed variables, a world for the witness.
-/
import Derived.Test.YtlcpdkckldlceaaGreatDoorFB
import Derived.Deep.Slices
import Derived.ChangeSame
import Derived.Lib.LaidTab
import Derived.RowKit
import Derived.Test.YtlcpdkckldlceaaGreatDoorFL
import Derived.Test.YtlcpdkckldlceaaGreatDoorCards
import Derived.Test.YtlcpdkckldlceaaGreatDoorTie
import Derived.Deep.DeepHandedRow
import Derived.Deep.DeepWitnessRowRef
import Derived.Shelf.Vars
import Derived.OpenShut
namespace Go.Sx
open Go.ChangeShapes Go.WideShapes
set_option maxRecDepth 100000

theorem mapM_mono {α β : Type} {f g : α → Option β} : ∀ {l : List α} {r : List β}, (∀ x ∈ l, ∀ y, f x = some y → g x = some y) → l.mapM f = some r → l.mapM g = some r
  | [], _, _, h => h
  | x :: l, r, hm, h => by
    simp only [List.mapM_cons, Option.bind_eq_bind, Option.bind_eq_some_iff, Option.pure_def, Option.some.injEq] at h ⊢
    obtain ⟨b, hb, r', hr', rfl⟩ := h
    exact ⟨b, hm x (by simp) b hb, r', mapM_mono (fun x hx => hm x (by simp [hx])) hr', rfl⟩

def Same (W W' : World) : Prop := ∀ i, i < W.heap.size → W'.heap[i]? = W.heap[i]?

theorem Same.at {W W' : World} (h : Same W W') {i : Nat} {o : Obj} (ho : W.heap[i]? = some o) : W'.heap[i]? = some o := by
  rw [h i (Array.getElem?_eq_some_iff.1 ho).1, ho]

theorem Same.cell {W W' : World} (h : Same W W') {a : Addr} {v : Value} (hc : W.cell? a = some v) : W'.cell? a = some v := by
  unfold World.cell? at hc ⊢
  split at hc
  · rename_i heq
    rw [h.at heq]
    exact hc
  · cases hc

theorem cell_lt {W : World} {a : Addr} {v : Value} (hc : W.cell? a = some v) : a.block < W.heap.size := by
  unfold World.cell? at hc
  split at hc
  · rename_i heq
    exact (Array.getElem?_eq_some_iff.1 heq).1
  · cases hc

theorem Same.cells {W W' : World} (h : Same W W') {base n : Nat} {a : Addr} {cs : List Value} (hc : W.cells? base a n = some cs) : W'.cells? base a n = some cs := by
  unfold World.cells? at hc ⊢
  split at hc
  · rename_i hb
    rw [if_pos hb]
    exact mapM_mono (fun i _ v hv => h.cell hv) hc
  · cases hc

theorem add_block (a : Addr) (i : Nat) : (a.add i).block = a.block := by unfold Addr.add; split <;> rfl

theorem cells_lt {W : World} {base n : Nat} {a : Addr} {cs : List Value} (hn : 0 < n) (hc : W.cells? base a n = some cs) : a.block < W.heap.size := by
  unfold World.cells? at hc
  split at hc
  · obtain ⟨v, _, hv⟩ := Lib.mapM_at hc 0 0 (by simp [hn])
    have := cell_lt hv
    rwa [add_block] at this
  · cases hc

/-- A list of types that holds the types of their parts; a slice's element has a cell. -/
def closedB (P : Program) (L : List TypeId) : Bool := L.all fun t => match P.underlying t with
  | some (.pointer e) => L.contains e
  | some (.slice e) => L.contains e && decide (0 < P.cellsOf e)
  | some (.struct fs) => fs.toList.all fun f => L.contains f.type
  | some (.array _ e) => L.contains e
  | some (.map _ e) => L.contains e
  | _ => true

section
variable {H : Type} {enc : TypeId × Value → H} {P : Program} {W W' : World} {base : Nat} {sp : Nat → Bool} {L : List TypeId}

theorem trod_same (h : Same W W') (hsp : ∀ b, b < W.heap.size → sp b = true) (hz : closedB P L = true) :
    ∀ (fuel : Nat) (t : TypeId) (cs : List Value) (x : DataW H × List MemPlace), t ∈ L → DataW.trod enc P W base (fun _ => true) true fuel t cs = some x → DataW.trod enc P W' base sp true fuel t cs = some x
  | 0, _, _, _, _, hx => by simp [DataW.trod] at hx
  | fuel + 1, t, cs, x, hm, hx => by
    have ih := trod_same h hsp hz fuel
    have hcl := List.all_eq_true.1 hz t hm
    have ihc : ∀ (a : Addr) (n : Nat) (e : TypeId) y, e ∈ L → (W.cells? base a n).bind (DataW.trod enc P W base (fun _ => true) true fuel e) = some y → (W'.cells? base a n).bind (DataW.trod enc P W' base sp true fuel e) = some y := by
      intro a n e y hm hy
      obtain ⟨cs', h1, h2⟩ := Option.bind_eq_some_iff.1 hy
      rw [h.cells h1]
      exact ih _ _ _ hm h2
    unfold DataW.trod at hx ⊢
    split at hx <;> (try simp only [*])
    · rename_i e a heq
      have he : e ∈ L := by rw [heq] at hcl; simpa using hcl
      simp only [Option.map_eq_some_iff] at hx ⊢
      obtain ⟨y, hy, rfl⟩ := hx
      exact ⟨y, ihc _ _ _ _ he hy, rfl⟩
    · rename_i e a len cap heq
      have hpm : e ∈ L ∧ 0 < P.cellsOf e := by rw [heq] at hcl; simpa using hcl
      have hp := hpm.2
      split at hx
      · rename_i hc
        rw [if_pos hc]
        obtain ⟨elems, he, hx⟩ := Option.bind_eq_some_iff.1 hx
        obtain ⟨rest, hr, rfl⟩ := Option.map_eq_some_iff.1 hx
        rw [if_pos rfl] at hr
        rw [mapM_mono (fun i _ y hy => ihc _ _ _ _ hpm.1 hy) he, Option.bind_some]
        by_cases hs : sp a.block = true
        · rw [if_pos hs, mapM_mono (fun i _ y hy => ihc _ _ _ _ hpm.1 hy) hr]
          rfl
        · have hlt : ¬ a.block < W.heap.size := fun hl => hs (hsp _ hl)
          have h0 : cap - len = 0 := by
            refine Nat.eq_zero_of_not_pos fun hpos => hlt ?_
            obtain ⟨y, _, hy⟩ := Lib.mapM_at hr 0 0 (by simp [hpos])
            obtain ⟨cs', h1, _⟩ := Option.bind_eq_some_iff.1 hy
            have := cells_lt hp h1
            rwa [add_block] at this
          rw [h0] at hr
          rw [if_neg hs]
          simp at hr
          subst hr
          rfl
      · cases hx
    · rename_i fs heq
      have hfs : ∀ f ∈ fs.toList, f.type ∈ L := fun f hf => by
        rw [heq] at hcl
        simpa using List.all_eq_true.1 hcl f hf
      split at hx
      · rename_i hc
        rw [if_pos hc]
        obtain ⟨xs, hm, rfl⟩ := Option.map_eq_some_iff.1 hx
        rw [mapM_mono (fun f hf y hy => ih _ _ _ (hfs f hf) hy) hm]
        rfl
      · cases hx
    · rename_i n e heq
      have he : e ∈ L := by rw [heq] at hcl; simpa using hcl
      split at hx
      · rename_i hc
        rw [if_pos hc]
        obtain ⟨xs, hm, rfl⟩ := Option.map_eq_some_iff.1 hx
        rw [mapM_mono (fun f _ y hy => ih _ _ _ he hy) hm]
        rfl
      · cases hx
    · rename_i k e b heq
      have hel : e ∈ L := by rw [heq] at hcl; simpa using hcl
      split at hx
      · rename_i heq2
        rw [h.at heq2]
        dsimp only
        split at hx
        · rename_i hc
          rw [if_pos hc]
          obtain ⟨entries, he, hx⟩ := Option.bind_eq_some_iff.1 hx
          rw [mapM_mono (g := fun x => (keyOf P _ x.key).bind fun key => if Value.formed P _ x.val = true then Option.map (fun y => ((key, y.fst), y.snd)) (DataW.trod enc P W' base sp true fuel _ x.val.cells.toList) else none) (fun x _ y hy => ?_) he]
          · exact hx
          · obtain ⟨key, hk, hy⟩ := Option.bind_eq_some_iff.1 hy
            rw [hk, Option.bind_some]
            split at hy
            · rename_i hf
              rw [if_pos hf]
              obtain ⟨z, hz', rfl⟩ := Option.map_eq_some_iff.1 hy
              rw [ih _ _ _ hel hz']
              rfl
            · cases hy
        · cases hx
      · cases hx
    all_goals exact hx
theorem Trod_same (h : Same W W') (hsp : ∀ b, b < W.heap.size → sp b = true) (hz : closedB P L = true) {t : TypeId} (ht : t ∈ L) {v : Value} {d : DataW H} {ps : List MemPlace}
    (hx : DataW.Trod enc P W base (fun _ => true) true t v d ps) : DataW.Trod enc P W' base sp true t v d ps := let ⟨f, hf⟩ := hx; ⟨f, trod_same h hsp hz f t _ _ ht hf⟩
theorem TrodAll_same (h : Same W W') (hsp : ∀ b, b < W.heap.size → sp b = true) (hz : closedB P L = true) :
    ∀ {ts : List TypeId} {vs : List Value} {ds : List (DataW H)} {ps : List MemPlace}, (∀ t ∈ ts, t ∈ L) → DataW.TrodAll enc P W base (fun _ => true) true ts vs ds ps → DataW.TrodAll enc P W' base sp true ts vs ds ps
  | [], _, _, _, _, hx => by
    obtain ⟨rfl, rfl, rfl⟩ := trodAll_nil hx
    exact trodAll_mk0
  | t :: ts, _, _, _, hm, hx => by
    obtain ⟨v, vs, d, ds, p, q, rfl, rfl, rfl, h1, h2⟩ := trodAll_cons hx
    exact ⟨p, q, Trod_same h hsp hz (hm _ (by simp)) h1, TrodAll_same h hsp hz (fun t ht => hm t (by simp [ht])) h2, rfl⟩

/-- A LAW's POST: it returns 'true' in a world that holds the same blocks: 'again' or not. -/
theorem post_true {f : Func} {s : ChangeSpec} {apart fresh handsOn again : Bool} {args : Array Value} {ds gs : List (DataW H)} {before : List MemPlace}
    (h : Same W W') (hz : closedB P L = true) (hp : ∀ t ∈ f.params.toList, t ∈ L) (hos : W'.os = W.os) (hout : W'.output = W.output)
    (hW : DataW.Whole enc P f.params.toList s.vars apart W args.toList ds gs before) (hv : s.vars = []) {tb : TypeId} (hr : f.resultTypes = #[tb]) (hb : P.underlying tb = some .bool)
    (hs : s.fn H ds = { results := [.lit (.bool true)], args := ds }) : s.post enc P f apart fresh handsOn again W args (.bool true) W' := by
  have hWW := hW
  obtain ⟨p, q, hA, hV, rfl, hfz, hnd⟩ := hWW
  rw [hv] at hV
  obtain ⟨rfl, rfl⟩ := trodVars_none hV
  rw [List.append_nil] at hW hfz hnd
  have hlt : ∀ x ∈ p, x.block < W.heap.size := fun x hx => hW.lt x hx
  have h1 : ∀ {b : Nat} {sp : Nat → Bool} {hd : Bool}, DataW.TrodAll enc P W' b sp hd f.resultTypes.toList ((Value.bool true).resultList f.resultTypes.size) (s.fn H (ds ++ [])).results [] := by
    intro b sp hd
    rw [hr, List.append_nil, hs]
    exact trodAll_mk1 (RowKit.shut_bool hb true)
  have h2 : ∀ {sp : Nat → Bool}, (∀ b, b < W.heap.size → sp b = true) → DataW.TrodAll enc P W' 0 sp true f.params.toList args.toList (s.fn H (ds ++ [])).args p := by
    intro sp hsp
    rw [List.append_nil, hs]
    exact TrodAll_same h hsp hz hp hA
  refine ⟨ds, [], p, [], p, [], hW, h1, h2 (fun b hb => by simpa using hb), ?_, ?_, fun _ => ⟨?_, ?_⟩⟩
  · rw [hv, List.append_nil, hs]; rfl
  · refine ⟨hos, hout, fun i hi => ?_⟩
    rw [h i hi]
    split <;> simp_all
  · exact RowKit.ok_one hr rfl (RowKit.okWide_bool_mk hb true)
  · refine ⟨_, [], [] ++ p, ⟨[] ++ p, [], trodAll_append (h2 fun _ _ => rfl) h1, ?_, by simp, ?_, ?_⟩, fun x hx _ => by simpa using hx⟩
    · rw [hv]; rfl
    · intro b off hp
      have hb := hfz b off (by simpa using hp)
      have hl := hlt _ (by simpa using hp)
      unfold World.frozen? at hb ⊢
      simp only [h b hl]
      exact hb
    · intro ha
      simpa using hnd ha
end
end Go.Sx
namespace Go
theorem laidMet.drop1 {P : Program} {x : String × DataW Unit} {r : List (String × DataW Unit)} {w : World} (h : laidMet P (x :: r) w) : laidMet P r w := by
  obtain ⟨ps, hv, hnd, hrows⟩ := h
  obtain ⟨n, d⟩ := x
  obtain ⟨g, t, cs, fuel, p, q, _, _, _, _, hq, rfl⟩ := hv
  exact ⟨q, hq, List.Nodup.sublist (List.sublist_append_right _ _) hnd, fun b off hm => hrows b off (List.mem_append_right _ hm)⟩
end Go
namespace Go.Proofs.YtlcpdkckldlceaaGreatDoor
open Go.Sx Go.ChangeShapes Go.WideShapes Go.Proofs
set_option maxRecDepth 100000

theorem ownK : ownKnob Tryz.prog.godebug = none := by kernel_rfl

def ofW (W : World) : RO := fun b => W.heap[b]?

theorem hp_start (W : World) : Hp ⟨W, [], ofW W, false⟩ (ofW W) [] W :=
  ⟨[], rfl, { os := rfl, tape := rfl, output := rfl, drew := (fun h => by cases h), size := Nat.le_refl _, frame := fun _ _ _ => rfl, le := .refl _, fresh := fun b hb => .inl hb, ro := fun _ _ h => h, own := (by simp), nodup := (by simp), apart := (by simp), new := (by simp) }⟩

theorem Sp0.world {f : FuncId} {args : List Value} {W : World} (h : Sp0 Tryz.prog f args (ofW W) [] fun r _ _ => r = .bool true) :
    Calls Tryz.prog f args.toArray W fun e W' => e = .returned (.bool true) ∧ Same W W' ∧ W'.os = W.os ∧ W'.output = W.output := by
  refine (h ⟨W, [], ofW W, false⟩ rfl rfl (hp_start W)).mono ?_
  rintro e W' ⟨v, M', L', rfl, ⟨F, _, H⟩, rfl⟩
  exact ⟨rfl, fun i hi => H.frame i hi (by simp), H.os, H.output⟩

theorem cells45 : Tryz.prog.cellsOf 45 = 1 := by kernel_rfl
theorem cells68 : Tryz.prog.cellsOf 68 = 1 := by kernel_rfl
theorem cells70 : Tryz.prog.cellsOf 70 = 3 := by kernel_rfl

section
variable {H : Type} {enc : TypeId × Value → H} {W : World}

theorem int_cell {fuel : Nat} {t : TypeId} {k : IntKind} {cs : List Value} {y : Option (DataW H × List MemPlace)} {x : DataW H × List MemPlace} (ht : Tryz.prog.underlying t = some (.int k)) (hy : y = some x) (h : DataW.trod enc Tryz.prog W 0 (fun _ => true) true fuel t cs = y) : ∃ n, cs = [.int k n] ∧ (Lit.int k n).wf = true := by
  obtain ⟨n, h1, _, h2⟩ := DataW.trod_int ht (h.trans hy)
  exact ⟨n, h1, h2⟩

theorem term_of {fuel : Nat} {cs : List Value} {x : DataW H × List MemPlace} (h : DataW.trod enc Tryz.prog W 0 (fun _ => true) true fuel 70 cs = some x) :
    ∃ t : Nat × Nat × Nat, cs = encA t ∧ t.1 < 4294967296 ∧ t.2.1 < 65536 ∧ t.2.2 < 65536 := by
  obtain ⟨xs, n, _, _, hl, hlen, hf⟩ := DataW.trod_struct Tryz.underlying70 h
  rw [cells70] at hl
  obtain ⟨a, b, c, rfl⟩ : ∃ a b c, cs = [a, b, c] := by
    match cs, hl with
    | [a, b, c], _ => exact ⟨a, b, c, rfl⟩
  obtain ⟨x0, x1, x2, rfl⟩ : ∃ a b c, xs = [a, b, c] := by
    match xs, hlen with
    | [a, b, c], _ => exact ⟨a, b, c, rfl⟩
  have h0 := hf 0 _ rfl
  have h1 := hf 1 _ rfl
  have h2 := hf 2 _ rfl
  have h0 : DataW.trod enc Tryz.prog W 0 (fun _ => true) true n 68 ([a, b, c].drop 0 |>.take (Tryz.prog.cellsOf 68)) = some x0 := h0
  have h1 : DataW.trod enc Tryz.prog W 0 (fun _ => true) true n 45 ([a, b, c].drop 1 |>.take (Tryz.prog.cellsOf 45)) = some x1 := h1
  have h2 : DataW.trod enc Tryz.prog W 0 (fun _ => true) true n 45 ([a, b, c].drop 2 |>.take (Tryz.prog.cellsOf 45)) = some x2 := h2
  rw [cells68] at h0
  rw [cells45] at h1 h2
  obtain ⟨n0, e0, w0⟩ := int_cell Tryz.underlying68 rfl h0
  obtain ⟨n1, e1, w1⟩ := int_cell Tryz.underlying45 rfl h1
  obtain ⟨n2, e2, w2⟩ := int_cell Tryz.underlying45 rfl h2
  obtain rfl : a = .int .u32 n0 := by simpa using e0
  obtain rfl : b = .int .u16 n1 := by simpa using e1
  obtain rfl : c = .int .u16 n2 := by simpa using e2
  have b0 := bounds_u32 w0
  have b1 := bounds_u16 w1
  have b2 := bounds_u16 w2
  refine ⟨(n0.toNat, n1.toNat, n2.toNat), ?_, ?_, ?_, ?_⟩
  · simp only [encA]
    rw [Int.toNat_of_nonneg b0.1, Int.toNat_of_nonneg b1.1, Int.toNat_of_nonneg b2.1]
  all_goals dsimp only; omega

theorem cell_row {c : Array Value} {o : Nat} : ∀ {n : Nat} {xs : List Value}, xs.length = n → (∀ j, j < n → c[o + j]? = xs[j]?) → o + n ≤ c.size → (c.extract o (o + n)).toList = xs := by
  intro n xs hl hx hsz
  apply List.ext_getElem?
  intro j
  rw [Array.getElem?_toList, Array.getElem?_extract]
  by_cases hj : j < n
  · rw [if_pos (by omega)]
    exact hx j hj
  · rw [if_neg (by omega), List.getElem?_eq_none (by omega)]

theorem flatA_len (ts : List (Nat × Nat × Nat)) : (flatA ts).length = ts.length * 3 := by
  induction ts with
  | nil => rfl
  | cons t ts ih =>
    show (encA t ++ flatA ts).length = _
    rw [List.length_append, ih]
    simp [encA]
    omega

theorem flatA_enc {l : List (Nat × Nat × Nat)} {j i : Nat} {t : Nat × Nat × Nat} (h : l[j]? = some t) (hi : i < 3) : (flatA l)[j * 3 + i]? = (encA t)[i]? := by
  obtain ⟨h0, h1, h2⟩ := flatA_get h
  match i, hi with
  | 0, _ => exact h0
  | 1, _ => exact h1
  | 2, _ => exact h2

theorem add_none (b o i : Nat) : (⟨b, o, none⟩ : Addr).add i = ⟨b, o + i, none⟩ := by
  unfold Addr.add
  split
  · rename_i h; rw [h]; rfl
  · rfl

theorem argT_of {base : Nat} {v : Value} {d : DataW H} {ps : List MemPlace} (hval : Value.okWide Tryz.prog W .any base 36 v) (hd : DataW.Trod enc Tryz.prog W 0 (fun _ => true) true 36 v d ps) :
    ∃ ts, ArgT (ofW W) v ts := by
  obtain ⟨fuel, hf⟩ := hd
  have hv : v.cells.toList = [v] := by
    unfold Value.okWide Cell.okWide at hval
    rw [Tryz.underlying36] at hval
    cases v <;> first | rfl | simp_all [Cell.ok]
  rw [hv] at hf
  rcases Go.Deep.open_slice Tryz.underlying36 hf with ⟨h0, _⟩ | ⟨a, len, cap, m, n, D, Pl, h0, hb, hl, hm, hmm, _, hx⟩
  · obtain rfl : v = .slice none 0 0 := by simpa using h0
    exact ⟨[], ⟨none, 0, rfl, .inl rfl⟩, by simp, by simp⟩
  · obtain rfl : v = .slice (some a) len cap := by simpa using h0
    rw [if_pos rfl] at hmm
    subst hmm
    rw [cells70] at hx
    obtain ⟨T, hT⟩ := Go.Deep.choose_lt (α := Nat × Nat × Nat) (p := fun i t => W.cells? 0 (a.add (i * 3)) 3 = some (encA t) ∧ t.1 < 4294967296 ∧ t.2.1 < 65536 ∧ t.2.2 < 65536) (n := len) (fun i hi => by
      obtain ⟨cs, h1, h2⟩ := hx i (by omega)
      obtain ⟨t, rfl, ht⟩ := term_of h2
      exact ⟨t, h1, ht⟩)
    have hlen : ((List.range len).map T).length = len := by simp
    have hmax : maxLen ≤ 9223372036854775807 := by decide
    refine ⟨(List.range len).map T, ⟨some a, _, by rw [hlen], ?_⟩, by rw [hlen]; omega, ?_⟩
    · rcases Nat.eq_zero_or_pos len with rfl | hpos
      · exact .inl rfl
      · have hcell : ∀ i, i < len → ∀ j, j < 3 → W.cell? ((a.add (i * 3)).add j) = (encA (T i))[j]? := by
          intro i hi j hj
          have h1 := (hT i hi).1
          unfold World.cells? at h1
          rw [if_pos (Nat.zero_le _)] at h1
          obtain ⟨v, hv1, hv2⟩ := Lib.mapM_at h1 j j (by simp [hj])
          rw [hv2, hv1]
        have h00 := hcell 0 hpos 0 (by decide)
        obtain ⟨b, o, sp⟩ := a
        rw [Go.Deep.add_add] at h00
        have hsp : sp = none ∧ ∃ c e z, W.heap[b]? = some (.cells c e z) := by
          simp only [Addr.add, World.cell?, encA] at h00
          split at h00
          · rename_i heq
            cases sp with
            | none => exact ⟨rfl, _, _, _, by simpa using heq⟩
            | some s => simp at h00
          · simp at h00
        obtain ⟨rfl, c, e, z, hb⟩ := hsp
        have hget : ∀ i, i < len → ∀ j, j < 3 → c[o + (i * 3 + j)]? = (encA (T i))[j]? := by
          intro i hi j hj
          have := hcell i hi j hj
          rw [Go.Deep.add_add] at this
          rw [← this, add_none]
          simp [World.cell?, hb]
        have hfl : (flatA ((List.range len).map T)).length = len * 3 := by rw [flatA_len, hlen]
        have hsz : o + len * 3 ≤ c.size := by
          have := hget (len - 1) (by omega) 2 (by decide)
          have h2 : o + ((len - 1) * 3 + 2) < c.size := by
            rcases Nat.lt_or_ge (o + ((len - 1) * 3 + 2)) c.size with h | h
            · exact h
            · rw [Array.getElem?_eq_none h] at this
              simp [encA] at this
          omega
        refine .inr ⟨b, o, c, e, z, rfl, hb, by rw [hfl]; exact hsz, ?_⟩
        rw [hfl]
        refine cell_row hfl (fun j hj => ?_) hsz
        have hq : j / 3 < len := by omega
        have hm := Nat.div_add_mod j 3
        have := hget (j / 3) hq (j % 3) (Nat.mod_lt _ (by decide))
        rw [show j / 3 * 3 + j % 3 = j by omega] at this
        rw [this, ← flatA_enc (l := (List.range len).map T) (j := j / 3) (by simp [hq]) (Nat.mod_lt _ (by decide)), show j / 3 * 3 + j % 3 = j by omega]
    · intro t ht
      obtain ⟨i, hi, rfl⟩ := List.mem_map.1 ht
      exact (hT i (List.mem_range.1 hi)).2
end

theorem tabM_of {W : World} {a b : String × DataW Unit} {rest : List (String × DataW Unit)}
    (h : laidMet Tryz.prog (a :: b :: ("internal/strconv.uint64pow10", Lib.tabData .u64 Lib.pow10Tab) :: rest) W) : TabM (ofW W) := by
  have hh := h.drop1.drop1
  have ht : Lib.TabIs Tryz.prog W "internal/strconv.uint64pow10" .u64 Lib.pow10Tab :=
    Lib.tabIs_of_head (g := 0) (t := 208) (e := 51) (n := 20) (by kernel_rfl) (by kernel_rfl) (by kernel_rfl) (by kernel_rfl) (by kernel_rfl) (by kernel_rfl) hh
  intro w hw
  have hg : Tryz.prog.globalNamed "internal/strconv.uint64pow10" = some 0 := by kernel_rfl
  unfold Lib.TabIs World.var? at ht ⊢
  rw [hg, Option.bind_some] at ht ⊢
  split at ht
  · rename_i heq
    rw [hw 0 _ heq]
    exact ht
  · cases ht

theorem maxM_of {W : World} (h : W.ShapedOpen Tryz.prog) : MaxM (ofW W) := by
  obtain ⟨m, hm⟩ := cell_of_shapedOpen_int (g := 1) (t := 3) (zero := #[.int .i64 0]) (k := .i64) h (by decide +kernel) (by kernel_rfl) rfl (by kernel_rfl) (by kernel_rfl) (by kernel_rfl)
  unfold World.cell? at hm
  split at hm
  · rename_i c e z heq
    exact ⟨c, e, z, m, heq, by simpa using hm⟩
  · cases hm
end Go.Proofs.YtlcpdkckldlceaaGreatDoor
namespace Go.Proofs.YtlcpdkckldlceaaGreatDoor
open Go.Sx Go.ChangeShapes Go.WideShapes Go.Proofs
set_option maxRecDepth 100000

def num1 : DataW Unit → Value
  | .lit (.int k n) => .int k n
  | _ => .nilFunc
def nums : DataW Unit → List Value
  | .agg xs => xs.map num1
  | _ => []
def nums2 : DataW Unit → List Value
  | .agg xs => xs.flatMap nums
  | _ => []
abbrev rangeS : ByteArray := { data := #[118, 97, 108, 117, 101, 32, 111, 117, 116, 32, 111, 102, 32, 114, 97, 110, 103, 101] }
abbrev syntaxS : ByteArray := { data := #[105, 110, 118, 97, 108, 105, 100, 32, 115, 121, 110, 116, 97, 120] }
noncomputable def lowB : Nat := (World.holding Tryz.prog default ⟨#[], #[], []⟩).heap.size
def putG (h : Array Obj) (g : Nat) (cs : List Value) : Array Obj := h.modify g fun
  | .cells _ t frozen => .cells cs.toArray t frozen
  | o => o
noncomputable def laidWorld (os : Os) : World :=
  let w0 := World.holding Tryz.prog os ⟨#[.cells #[.string syntaxS] 230, .cells #[.string rangeS] 230], #[], []⟩
  { w0 with heap := putG (putG (putG (putG (putG (putG (putG w0.heap
      6 (nums Rows.laid_math_bits_deBruijn32tab)) 7 (nums Rows.laid_math_bits_deBruijn64tab)) 0 (nums Rows.laid_internal_strconv_uint64pow10)) 5 (nums2 Rows.laid_unicode_utf8_acceptRanges))
      2 [.iface 228 (.pointer (some ⟨lowB, 0, none⟩))]) 3 [.iface 228 (.pointer (some ⟨lowB + 1, 0, none⟩))]) 4 (nums Rows.laid_unicode_utf8_first) }
noncomputable abbrev startW (os : Os) (args : Array Value) : World := (laidWorld os).forCall (fun _ _ => 0) ⟨#[], args, []⟩
theorem laid_met (os : Os) (args : Array Value) : laidMet Tryz.prog Rows.polynomialSumProductRow.laid (startW os args).memory :=
  laidMet_of_run' 8 (by kernel_rfl) (by kernel_rfl)
end Go.Proofs.YtlcpdkckldlceaaGreatDoor
