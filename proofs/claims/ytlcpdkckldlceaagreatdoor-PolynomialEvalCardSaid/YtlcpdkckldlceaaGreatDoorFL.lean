/-
  Parsing of polynomials, likeness, the polynomials that a statement makes, what is known of them.
-/
import Derived.Test.YtlcpdkckldlceaaGreatDoorFK
import Derived.Test.YtlcpdkckldlceaaGreatDoorFC
namespace Go.Proofs.YtlcpdkckldlceaaGreatDoor
open Go.Sx Go.Nat32 Go.Dec Go.PolyL Go.Lib Go.Proofs
attribute [local irreducible] pt sl itc itm
set_option maxRecDepth 100000
set_option linter.unusedVariables false
set_option linter.unusedSimpArgs false
set_option maxHeartbeats 2000000

/-- The terms of a text: right, and ascending. -/
structure Terms (L : List Tm) : Prop where
  ne : L ≠ []
  ok : ∀ t ∈ L, TmOK t
  asc : L.Pairwise fun s t => kl s.2 t.2

/-- The polynomial with these terms. -/
def fOf (L : List Tm) : Nat → Nat → Nat := fun a b => sumL L fun t => if t.2.1 = a ∧ t.2.2 = b then t.1 else 0
theorem fOf_snoc (L : List Tm) (t : Tm) : fOf (L ++ [t]) = upd (fOf L) t.2.1 t.2.2 (fOf L t.2.1 t.2.2 + t.1) := by
  funext a b
  unfold fOf upd
  rw [sumL_snoc]
  by_cases h : a = t.2.1 ∧ b = t.2.2
  · obtain ⟨rfl, rfl⟩ := h; simp
  · rw [if_neg h, if_neg (fun h' => h ⟨h'.1.symm, h'.2.symm⟩)]; exact Nat.add_zero _
theorem fOf_nil : fOf [] = fun _ _ => 0 := rfl

theorem ordI_kl {a b c d : Nat} : (0 ≤ ordI ((a : Int), (b : Int)) ((c : Int), (d : Int))) ↔ ¬ kl (a, b) (c, d) := by
  unfold ordI cmpI kl
  dsimp only
  split <;> split <;> omega

theorem tmL_inj {t t' : Tm} (h : TmOK t) (h' : TmOK t') (e : tmL t = tmL t') : t = t' :=
  (tm_uniq (r := []) (r' := []) h h' (.inl rfl) (.inl rfl) (by rw [e])).1
theorem map_tmL_inj : ∀ {L L' : List Tm}, (∀ t ∈ L, TmOK t) → (∀ t ∈ L', TmOK t) → L.map tmL = L'.map tmL → L = L'
  | [], [], _, _, _ => rfl
  | [], _ :: _, _, _, h => by cases h
  | _ :: _, [], _, _, h => by cases h
  | t :: L, t' :: L', h1, h2, h => by
    rw [List.map_cons, List.map_cons] at h
    injection h with h3 h4
    rw [tmL_inj (h1 t (by simp)) (h2 t' (by simp)) h3, map_tmL_inj (fun x hx => h1 x (by simp [hx])) (fun x hx => h2 x (by simp [hx])) h4]
theorem tmL_head {t : Tm} (h : TmOK t) (r : List UInt8) : tmL t ++ r ≠ [48] := by
  intro e
  have h1 := decDigits_head h.1
  have h2 := decDigits_ne t.1
  obtain ⟨c, l, hc⟩ := List.exists_cons_of_ne_nil h2
  unfold tmL at e
  rw [hc] at e h1
  injection e with e1 _
  subst e1; exact h1 rfl
theorem terms_ne48 {L : List Tm} (h : Terms L) : textT L ≠ [48] := by
  obtain ⟨t, L, rfl⟩ := List.exists_cons_of_ne_nil h.ne
  obtain ⟨r, e, _⟩ := textT_split t L
  rw [e]; exact tmL_head (h.ok t (by simp)) r

theorem r_ldSlA {P : Program} {ρ : Env} {w : World} {K : Value → World → Prop} {dst : Option Tmp} {ty : TypeId} {pos : String} {aft : Array Edge} {g : Option (Nat × Bool)} {E : Ent} {M : RO} {L : List HProp} {t : TypeId} {u : TypeDesc} {n by_ : Nat} {zv : Value} {x : Operand} {b o i : Nat} {e : TypeId} {xs : List Value} {ne len cap : Nat} {cs : List Value}
    (ht : tinfo P t = some (u, n, by_, zv)) (hx : ρ.ev x = .pointer (some ⟨b, o, none⟩)) (H : Hp E M L w) (hi : At L i (sl e ne (.slice (some ⟨b, 0, none⟩) len cap) xs))
    (hu : aggDesc u = true) (ho : o + n ≤ xs.length) (hv : (xs.drop o).take n = cs) (h : K (.agg cs.toArray) w) : OpRuns P ρ ⟨dst, .load t x, ty, pos, aft, g⟩ w K := by
  rcases H.slOpen hi with ⟨h', _⟩ | ⟨b', c, len', cap', h', h1, h2, h3, h4, H'⟩
  · cases h'
  · cases h'
    have hsz : len * ne ≤ c.size := by
      have : len * ne ≤ cap * ne := Nat.mul_le_mul_right _ h2
      omega
    refine r_load ht hx (H'.own hi.set_at) (rd_aggE (x := cs.toArray) hu (by omega) ?_) h
    rw [← Array.toList_inj, ← hv, ← h4]
    apply List.ext_getElem?
    intro j
    rw [Array.getElem?_toList, Array.getElem?_extract, List.getElem?_take, List.getElem?_drop, List.getElem?_take, Array.getElem?_toList]
    by_cases hj : j < n
    · rw [if_pos (by omega), if_pos hj, if_pos (by omega)]
    · rw [if_neg (by omega), if_neg hj]
theorem flat_at {ks : List (Nat × Nat)} {j : Nat} {k : Nat × Nat} (h : ks[j]? = some k) : ((flat ks).drop (0 + j * 2)).take 2 = [.int .i64 (k.1 : Int), .int .i64 (k.2 : Int)] := by
  obtain ⟨h0, h1⟩ := flatP_get h
  rw [Nat.zero_add]
  apply List.ext_getElem?
  intro i
  rw [List.getElem?_take, List.getElem?_drop]
  rcases (by omega : i = 0 ∨ i = 1 ∨ 2 ≤ i) with rfl | rfl | h
  · exact h0
  · exact h1
  · rw [if_neg (by omega), List.getElem?_eq_none (by simpa using h)]

/-- What parsing gives. -/
def ParseR (s : List UInt8) (c : Int) (ok : (Nat → Nat → Nat) → Prop) : Prop :=
  (s = [48] ∧ c = 0 ∧ ok fun _ _ => 0) ∨
  (∃ L, Terms L ∧ s = textT L ∧ (((∀ t ∈ L, t.2.1 ≤ 2048 ∧ t.2.2 ≤ 2048) ∧ c = 0 ∧ ok (fOf L)) ∨ (¬ (∀ t ∈ L, t.2.1 ≤ 2048 ∧ t.2.2 ≤ 2048) ∧ c = 2 ∧ ok fun _ _ => 0))) ∨
  (s ≠ [48] ∧ (¬ ∃ L, Terms L ∧ s = textT L) ∧ c = 3 ∧ ok fun _ _ => 0)

theorem pparse_spec {M : RO} (hm : MaxM M) {s : List UInt8} (hs : s.length ≤ 2000) :
    Sp0 Tryz.prog 12 [st s] M [] fun r M' L' => L' = [] ∧ ∃ v c, r = .tuple #[v, .int .i64 c] ∧ ParseR s c (PolyV M' v) := by
  refine Sp0.enter (n := 95) Tryz.func12 rfl Tryz.ntmps12 rfl ?_
  intro E hdr hE H
  subst hE
  refine Goes.seq (Goes.region ?_)
  refine GoL.stepS rfl rfl (r_alloc tt24 H ?_); clear H; intro b2 w hb2 H
  refine GoL.stepS rfl rfl (asI rfl ?_)
  refine GoL.nil ?_
  refine Goes.seq (Goes.block (Goes.seq (Goes.region ?_)))
  refine GoL.stepS rfl rfl (mvS rfl ?_)
  refine GoL.stepS rfl rfl (r_lenS tt9 rfl ?_)
  refine GoL.stepS rfl rfl (r_gtrF rfl rfl (by first | omega | (dsimp only; omega)) ?_)
  refine GoL.stepS rfl rfl (asB rfl ?_)
  refine GoL.nil ?_
  refine Goes.condF rfl (rfl) ?_
  refine Goes.seq (Goes.region ?_)
  refine GoL.stepS rfl rfl (mvS rfl ?_)
  refine GoL.stepS rfl rfl (r_eqlS (a := s) (b := [48]) rfl rfl ?_)
  refine GoL.stepS rfl rfl (asB rfl ?_)
  refine GoL.nil ?_
  refine Goes.cond rfl (fun hz => ?_) (fun hz => ?_)
  · have hz' : s = [48] := by simpa using hz
    refine Goes.seq (Goes.region ?_)
    refine GoL.stepS rfl rfl (bld (cells := [.map _]) tt24 pl24 pz24 rfl (by rfl) ?_)
    refine GoL.step0 rfl (stA tt24 rfl rfl H (by repeat constructor) rfl rfl (by rfl) ?_); clear H; intro w H
    refine GoL.stepS rfl rfl (asI rfl ?_)
    refine GoL.nil ?_
    exact Goes.ret (ret2 (v := .agg #[.map _]) (v' := .int _ _) rfl rfl (res_agg rfl tt24 (H.own (by repeat constructor)) rfl (by rfl)) rfl H.nil ⟨rfl, _, 0, rfl, .inl ⟨hz', rfl, .zero _⟩⟩)
  · have hz' : s ≠ [48] := by simpa using hz
    have hps := splitK_ne plusL (count s plusL) s
    have hjoin := join_split s plusL
    have hpl : ∀ w ∈ split s plusL, w.length ≤ 2000 := by
      intro w hw
      have hl : ∀ (l : List (List UInt8)), w ∈ l → w.length ≤ (join l plusL).length := by
        intro l
        induction l with
        | nil => intro h; cases h
        | cons x l ih =>
          intro h
          by_cases hl : l = []
          · subst hl
            obtain rfl := List.mem_singleton.1 h
            rw [join_one]; exact Nat.le_refl _
          · rw [join_two _ hl]
            simp only [List.length_append]
            rcases List.mem_cons.1 h with rfl | h
            · omega
            · have := ih h; omega
      have := hl _ hw
      rw [hjoin] at this; omega
    have hpc : (split s plusL).length ≤ 2002 := by
      have := splitB_length_le ⟨plusL.toArray⟩ 0 (count s plusL) ⟨s.toArray⟩
      have h2 := congrArg List.length (splitB_data ⟨plusL.toArray⟩ 0 (count s plusL) ⟨s.toArray⟩)
      rw [List.length_map] at h2
      have h3 : (split s plusL).length = (splitK plusL 0 (count s plusL) s).length := rfl
      have h4 : (splitK plusL 0 (count s plusL) s).length = (splitB ⟨plusL.toArray⟩ 0 (count s plusL) ⟨s.toArray⟩).length := h2.symm
      have h5 := count_le s plusL
      omega
    have hps' : split s plusL ≠ [] := hps
    have hno : ∀ {L : List Tm}, Terms L → s = textT L → split s plusL = L.map tmL := fun hT he => by rw [he]; exact split_text hT.ne
    refine Goes.skip (Goes.inBlock (Goes.seq (Goes.region ?_)))
    refine GoL.stepS rfl rfl (asL rfl ?_)
    refine GoL.nil ?_
    refine Goes.seq (Goes.region ?_)
    refine GoL.stepS rfl rfl (asL rfl ?_)
    refine GoL.nil ?_
    refine Goes.seq (Goes.seq (Goes.region ?_))
    refine GoL.stepS rfl rfl (mvS rfl ?_)
    refine GoL.stepS rfl rfl (r_call cc51 (split_spec hm (s := s) (sep := plusL) (by first | omega | (dsimp only; omega)) (by decide)) H ?_); clear H; rintro v26 M26 L26 w hM26 ⟨rfl, wa, wn, rfl, hwn, hwrow⟩ H
    generalize split s plusL = ps at hjoin hpl hpc hps' hno hwn hwrow
    subst hwn
    refine GoL.stepS rfl rfl (r_lenSlice tt86 rfl ?_)
    refine GoL.stepS rfl rfl (mvI rfl ?_)
    refine GoL.nil ?_
    have H := H.emp (sl_nil 90 2)
    have H := H.emp (sl_nil 9 1)
    refine Goes.cutT (3 :: 4 :: 5 :: 7 :: 8 :: 9 :: 10 :: 28 :: 29 :: 30 :: 31 :: 32 :: 33 :: 34 :: 35 :: 36 :: 37 :: 38 :: 39 :: 40 :: 41 :: 42 :: 43 :: 44 :: 45 :: 46 :: 47 :: 48 :: 49 :: 50 :: 51 :: 52 :: 53 :: 54 :: 55 :: 56 :: 57 :: 58 :: 59 :: 60 :: 61 :: 62 :: 63 :: 64 :: 65 :: []) [(4, .slice none 0 0), (5, .slice none 0 0), (28, .int .i64 0)] (fun (q : List Tm × Value × (Option Addr × Nat × Nat) × RO × List HProp) => [(4, q.2.1), (5, .slice q.2.2.1.1 q.2.2.1.2.1 q.2.2.1.2.2)]) (fun q w => ps = q.1.map tmL ∧ (∀ t ∈ q.1, TmOK t) ∧ (q.1.Pairwise fun s t => kl s.2 t.2) ∧ E.M.le q.2.2.2.1 ∧ Hp E q.2.2.2.1 (sl 9 1 q.2.1 (q.1.map fun t => st (decDigits t.1)) :: sl 90 2 (.slice q.2.2.1.1 q.2.2.1.2.1 q.2.2.1.2.2) (flat (q.1.map (·.2))) :: pt b2 (.cells #[.map none] 24 (0, 0)) :: q.2.2.2.2) w) ⟨rfl, rfl, rfl, trivial⟩ ?aft ?cut
    case cut =>
      intro f0 meet
      refine Goes.block ?_
      refine Goes.loopS (3 :: 4 :: 5 :: 7 :: 8 :: 9 :: 10 :: 28 :: 29 :: 30 :: 31 :: 32 :: 33 :: 34 :: 35 :: 36 :: 37 :: 38 :: 39 :: 40 :: 41 :: 42 :: 43 :: 44 :: 45 :: 46 :: 47 :: 48 :: 49 :: 50 :: 51 :: 52 :: 53 :: 54 :: 55 :: 56 :: 57 :: 58 :: 59 :: 60 :: 61 :: 62 :: 63 :: 64 :: 65 :: []) (fun (q : List Tm × Value × (Option Addr × Nat × Nat) × RO × List HProp) => [(28, .int .i64 (q.1.length : Int)), (4, q.2.1), (5, .slice q.2.2.1.1 q.2.2.1.2.1 q.2.2.1.2.2)]) (fun q w => q.1.length ≤ ps.length ∧ ps.take q.1.length = q.1.map tmL ∧ (∀ t ∈ q.1, TmOK t) ∧ (q.1.Pairwise fun s t => kl s.2 t.2) ∧ M26.le q.2.2.2.1 ∧ Hp E q.2.2.2.1 (sl 9 1 q.2.1 (q.1.map fun t => st (decDigits t.1)) :: sl 90 2 (.slice q.2.2.1.1 q.2.2.1.2.1 q.2.2.1.2.2) (flat (q.1.map (·.2))) :: pt b2 (.cells #[.map none] 24 (0, 0)) :: q.2.2.2.2) w) (fun q => ps.length - q.1.length) ([], .slice none 0 0, (none, 0, 0), M26, _) ⟨rfl, rfl, rfl, trivial⟩ ⟨Nat.zero_le _, rfl, (fun t ht => by cases ht), .nil, RO.le.refl _, H⟩ ?_
      clear H
      rintro ⟨D, v4, ⟨a5, n5, c5⟩, M1, L1⟩ f1 w ⟨hDl, hD, hDok, hDasc, hM1, H⟩ again
      dsimp only at hDl hD hDok hDasc hM1 H
      have fl := flat_length (D.map (·.2))
      rw [List.length_map] at fl
      obtain ⟨_, _, _, heq, hn5, _, ha5⟩ := H.slShape (.tail .head)
      cases heq
      rw [fl] at hn5
      refine Goes.seq (Goes.region ?_)
      refine GoL.stepS rfl rfl (r_lss rfl rfl ?_)
      refine GoL.nil ?_
      refine Goes.seq ?_
      refine Goes.cond rfl (fun hlt => ?_) (fun hlt => ?_)
      · have hin : D.length < ps.length := by have : (D.length : Int) < (ps.length : Int) := by simpa using hlt
                                              omega
        obtain ⟨p, hp⟩ : ∃ p, ps[D.length]? = some p := ⟨ps[D.length], List.getElem?_eq_getElem hin⟩
        have hpm := hpl p (List.mem_of_getElem? hp)
        have htk : ps.take (D.length + 1) = ps.take D.length ++ [p] := by rw [List.take_add_one, hp]; rfl
        obtain ⟨qb, qo, qcs, qe, qz, rfl, hMq, hq0⟩ := strRow_at (j := D.length) (w := p) hwrow hp
        -- what a text of right terms has at this place
        have hat : ∀ L, Terms L → s = textT L → ∃ t R, L = D ++ t :: R ∧ p = tmL t := by
          intro L hT he
          have h1 := hno hT he
          subst h1
          have h2 : (L.take D.length).map tmL = D.map tmL := by rw [← hD, List.map_take]
          have h3 := map_tmL_inj (fun t ht => hT.ok t (List.mem_of_mem_take ht)) hDok h2
          have h4 : D.length < L.length := by simpa using hin
          refine ⟨L[D.length], L.drop (D.length + 1), ?_, ?_⟩
          · rw [List.getElem_cons_drop, ← h3]
            have hl : (L.take D.length).length = D.length := by rw [List.length_take]; omega
            rw [hl, List.take_append_drop]
          · rw [List.getElem?_map, List.getElem?_eq_getElem h4] at hp
            exact (Option.some.inj hp).symm
        refine Goes.skip (Goes.seq (Goes.block (Goes.seq (Goes.region ?_))))
        refine GoL.stepS rfl rfl (r_indexAddrN tt86 tt9 rfl rfl hin ?_)
        refine GoL.stepS rfl rfl (ldS tt9 rfl (H.ro (hM1 _ _ hMq)) (by rw [Nat.mul_one]; exact hq0) ?_)
        refine GoL.stepS rfl rfl (asS rfl ?_)
        refine GoL.nil ?_
        refine Goes.seq (Goes.region ?_)
        refine GoL.stepS rfl rfl (mvS rfl ?_)
        refine GoL.stepS rfl rfl (r_call0 hdr cc52 (read_spec ((hm.mono hM26).mono hM1) (s := p) (by first | omega | (dsimp only; omega))) H ?_); clear H; rintro v34 M34 L34 w hM34 ⟨rfl, h34⟩ H
        rcases h34 with ⟨t, hread, rfl⟩ | ⟨hread, v', a', b', rfl⟩
        · obtain ⟨hpt, htok⟩ := readW_sound hread
          have hdl : (decDigits t.1).length ≤ 2000 := by
            have : (decDigits t.1).length ≤ (tmL t).length := by unfold tmL; rw [List.length_append]; omega
            rw [← hpt] at this; omega
          by_cases hD0 : D = []
          · have hasc2 : (D ++ [t]).Pairwise fun s t => kl s.2 t.2 := by subst hD0; simp
            have hn50 : n5 = 0 := by rw [hD0] at hn5; simp at hn5; omega
            refine GoL.stepS rfl rfl (mvT rfl ?_)
            refine GoL.stepS rfl rfl (r_extract rfl rfl ?_)
            refine GoL.stepS rfl rfl (r_extract rfl rfl ?_)
            refine GoL.stepS rfl rfl (r_extract rfl rfl ?_)
            refine GoL.stepS rfl rfl (r_alloc tt90 H ?_); clear H; intro b9 w hb9 H
            refine GoL.stepS rfl rfl (asS rfl ?_)
            refine GoL.step0 rfl (stA tt90 rfl rfl H (by repeat constructor) rfl rfl (by rfl) ?_); clear H; intro w H
            refine GoL.stepS rfl rfl (asB rfl ?_)
            refine GoL.nil ?_
            refine Goes.seq (Goes.seq ?_)
            refine Goes.regionD0 mixed (by kernel_rfl) 19 H ?_
            refine Ver.read (v := .bool _) 0 rfl (by kernel_rfl) (fun M' L' w hM H => mvB rfl ⟨rfl, rfl⟩) ?_
            refine Ver.read (v := .bool _) 1 rfl (by kernel_rfl) (fun M' L' w hM H => r_not rfl ⟨rfl, rfl⟩) ?_
            refine Ver.read (v := .bool _) 2 rfl (by kernel_rfl) (fun M' L' w hM H => mvB rfl ⟨rfl, rfl⟩) ?_
            refine Ver.readY (v := .slice _ _ _) 3 rfl (by kernel_rfl) rfl (fun M' L' w hM H => mvL rfl ⟨rfl, rfl⟩) ?_
            refine Ver.readY (v := .int _ _) 4 rfl (by kernel_rfl) rfl (fun M' L' w hM H => r_lenSlice tt87 rfl ⟨rfl, rfl⟩) ?_
            refine Ver.readY (v := .bool _) 5 rfl (by kernel_rfl) rfl (fun M' L' w hM H => r_gtrF rfl rfl (by first | omega | (dsimp only; omega)) ⟨rfl, rfl⟩) ?_
            refine Ver.readY (v := .bool _) 6 rfl (by kernel_rfl) rfl (fun M' L' w hM H => mvB rfl ⟨rfl, rfl⟩) ?_
            refine Ver.readN 7 rfl (by kernel_rfl) (by intro e; cases e) ?_
            refine Ver.readN 8 rfl (by kernel_rfl) (by intro e; cases e) ?_
            refine Ver.readN 9 rfl (by kernel_rfl) (by intro e; cases e) ?_
            refine Ver.readN 10 rfl (by kernel_rfl) (by intro e; cases e) ?_
            refine Ver.readN 11 rfl (by kernel_rfl) (by intro e; cases e) ?_
            refine Ver.readN 12 rfl (by kernel_rfl) (by intro e; cases e) ?_
            refine Ver.readN 13 rfl (by kernel_rfl) (by intro e; cases e) ?_
            refine Ver.readN 14 rfl (by kernel_rfl) (by intro e; cases e) ?_
            refine Ver.readN 15 rfl (by kernel_rfl) (by intro e; cases e) ?_
            refine Ver.readY (v := .bool _) 16 rfl (by kernel_rfl) rfl (fun M' L' w hM H => r_pickF (v := .bool false) rfl rfl ⟨rfl, rfl⟩) ?_
            refine Ver.read (v := .bool _) 17 rfl (by kernel_rfl) (fun M' L' w hM H => r_pickF (v := .bool false) rfl rfl ⟨rfl, rfl⟩) ?_
            refine Ver.fin0 (by kernel_rfl) ?_
            clear H; intro w H
            refine Goes.condF rfl (rfl) ?_
            refine Goes.skip ?_
            obtain ⟨M9, hb9, hle9, H⟩ := H.freezeX (i := 0) .head
            refine Goes.regionDX mixed (by kernel_rfl) 11 H ?_
            refine Ver.read (v := (v4)) 0 rfl (by kernel_rfl) (fun M' L' w hM H => r_mv (v := v4) rfl ⟨rfl, rfl⟩) ?_
            refine Ver.read (v := .string _) 1 rfl (by kernel_rfl) (fun M' L' w hM H => mvS rfl ⟨rfl, rfl⟩) ?_
            refine Ver.read (v := .slice _ _ _) 4 rfl (by kernel_rfl) (fun M' L' w hM H => mvL rfl ⟨rfl, rfl⟩) ?_
            refine Ver.read (v := .agg _) 5 rfl (by kernel_rfl) (fun M' L' w hM H => ldA tt90 rfl (H.ro (hM _ _ hb9)) rfl (by rfl) ⟨rfl, rfl⟩) ?_
            refine Ver.nextsX2 2 6 (by kernel_rfl) rfl rfl (by kernel_rfl) (by kernel_rfl) rfl rfl ?_ ?_
            · clear H; intro w H
              refine r_bsl (cells := [.string _]) tt86 tt9 rfl (by rfl) H ?_
              clear H; intro b59 w hb59 H
              refine ⟨_, _, RO.le.refl _, H, ?_⟩
              refine Ver.nextsX2 3 6 (by kernel_rfl) rfl rfl (by kernel_rfl) (by kernel_rfl) rfl rfl ?_ ?_
              · clear H; intro w H
                refine r_appendO (m := 1) tt86 tt9 tt86 (by intro k hk; cases hk) rfl rfl rfl H (by repeat constructor) (by repeat constructor) rfl rfl rfl rfl (by rw [List.length_map]; omega) ?_
                clear H; intro v60 w H
                refine ⟨_, _, RO.le.refl _, H, ?_⟩
                refine Ver.nextX 6 (by kernel_rfl) rfl (by kernel_rfl) ?_
                clear H; intro w H
                refine r_bsl (cells := [.int _ _, .int _ _]) tt87 tt90 rfl (by rfl) H ?_
                clear H; intro b63 w hb63 H
                refine ⟨_, _, RO.le.refl _, H, ?_⟩
                refine Ver.nextX 7 (by kernel_rfl) rfl (by kernel_rfl) ?_
                clear H; intro w H
                refine r_appendO (m := 1) tt87 tt90 tt87 (by intro k hk; cases hk) rfl rfl rfl H (by repeat constructor) (by repeat constructor) rfl rfl rfl rfl (by rw [flat_length, List.length_map]; omega) ?_
                clear H; intro v64 w H
                refine ⟨_, _, RO.le.refl _, H, ?_⟩
                refine Ver.nextX 8 (by kernel_rfl) rfl (by kernel_rfl) ?_
                clear H; intro w H
                refine r_as (v := v60) rfl ?_
                refine ⟨_, _, RO.le.refl _, H, ?_⟩
                refine Ver.nextX 9 (by kernel_rfl) rfl (by kernel_rfl) ?_
                clear H; intro w H
                refine r_as (v := v64) rfl ?_
                refine ⟨_, _, RO.le.refl _, H, ?_⟩
                refine Ver.finX (by kernel_rfl) ?_
                clear H; intro w H
                refine Goes.inBlock (Goes.region ?_)
                first | refine GoL.stepS rfl rfl (r_addI rfl rfl (by first | omega | (dsimp only; omega)) (by first | omega | (dsimp only; omega)) ?_) | refine GoL.stepS rfl rfl (r_add rfl rfl ?_)
                refine GoL.stepS rfl rfl (mvI rfl ?_)
                refine GoL.nil ?_
                have H : Hp E M9 [sl 9 1 v60 ((D.map fun t => st (decDigits t.1)) ++ [st (decDigits t.1)]), sl 90 2 v64 (flat (D.map (·.2)) ++ [.int .i64 (t.2.1 : Int), .int .i64 (t.2.2 : Int)]), pt b2 (.cells #[.map none] 24 (0, 0))] w := H.sel (.cons (by repeat constructor) (.cons (by repeat constructor) (.cons (by repeat constructor) .nil)))
                obtain ⟨a6, n6, c6, rfl, _, _, _⟩ := H.slShape (.tail .head)
                refine again (D ++ [t], v60, (a6, n6, c6), M9, []) _ _ ⟨by show Value.int .i64 _ = Value.int .i64 _; rw [List.length_append]; rfl, rfl, rfl, trivial⟩ (.of_strip (by kernel_rfl)) ⟨by dsimp only; rw [List.length_append, List.length_singleton]; omega, ?_, ?_, ?_, RO.le.trans hM1 (RO.le.trans hM34 hle9), ?_⟩ (by dsimp only; rw [List.length_append, List.length_singleton]; omega)
                · dsimp only
                  rw [List.length_append, List.length_singleton, htk, hD, List.map_append, List.map_singleton, hpt]
                · intro x hx
                  rcases List.mem_append.1 hx with hx | hx
                  · exact hDok x hx
                  · obtain rfl := List.mem_singleton.1 hx; exact htok
                · exact hasc2
                · dsimp only
                  rw [List.map_append, List.map_singleton, List.map_append, List.map_singleton, flat_snoc]
                  exact H
              · clear H; intro w H
                refine r_bsl (cells := [.int _ _, .int _ _]) tt87 tt90 rfl (by rfl) H ?_
                clear H; intro b63 w hb63 H
                refine ⟨_, _, RO.le.refl _, H, ?_⟩
                refine Ver.nextX 3 (by kernel_rfl) rfl (by kernel_rfl) ?_
                clear H; intro w H
                refine r_appendO (m := 1) tt86 tt9 tt86 (by intro k hk; cases hk) rfl rfl rfl H (by repeat constructor) (by repeat constructor) rfl rfl rfl rfl (by rw [List.length_map]; omega) ?_
                clear H; intro v60 w H
                refine ⟨_, _, RO.le.refl _, H, ?_⟩
                refine Ver.nextX 7 (by kernel_rfl) rfl (by kernel_rfl) ?_
                clear H; intro w H
                refine r_appendO (m := 1) tt87 tt90 tt87 (by intro k hk; cases hk) rfl rfl rfl H (by repeat constructor) (by repeat constructor) rfl rfl rfl rfl (by rw [flat_length, List.length_map]; omega) ?_
                clear H; intro v64 w H
                refine ⟨_, _, RO.le.refl _, H, ?_⟩
                refine Ver.nextX 8 (by kernel_rfl) rfl (by kernel_rfl) ?_
                clear H; intro w H
                refine r_as (v := v60) rfl ?_
                refine ⟨_, _, RO.le.refl _, H, ?_⟩
                refine Ver.nextX 9 (by kernel_rfl) rfl (by kernel_rfl) ?_
                clear H; intro w H
                refine r_as (v := v64) rfl ?_
                refine ⟨_, _, RO.le.refl _, H, ?_⟩
                refine Ver.finX (by kernel_rfl) ?_
                clear H; intro w H
                refine Goes.inBlock (Goes.region ?_)
                first | refine GoL.stepS rfl rfl (r_addI rfl rfl (by first | omega | (dsimp only; omega)) (by first | omega | (dsimp only; omega)) ?_) | refine GoL.stepS rfl rfl (r_add rfl rfl ?_)
                refine GoL.stepS rfl rfl (mvI rfl ?_)
                refine GoL.nil ?_
                have H : Hp E M9 [sl 9 1 v60 ((D.map fun t => st (decDigits t.1)) ++ [st (decDigits t.1)]), sl 90 2 v64 (flat (D.map (·.2)) ++ [.int .i64 (t.2.1 : Int), .int .i64 (t.2.2 : Int)]), pt b2 (.cells #[.map none] 24 (0, 0))] w := H.sel (.cons (by repeat constructor) (.cons (by repeat constructor) (.cons (by repeat constructor) .nil)))
                obtain ⟨a6, n6, c6, rfl, _, _, _⟩ := H.slShape (.tail .head)
                refine again (D ++ [t], v60, (a6, n6, c6), M9, []) _ _ ⟨by show Value.int .i64 _ = Value.int .i64 _; rw [List.length_append]; rfl, rfl, rfl, trivial⟩ (.of_strip (by kernel_rfl)) ⟨by dsimp only; rw [List.length_append, List.length_singleton]; omega, ?_, ?_, ?_, RO.le.trans hM1 (RO.le.trans hM34 hle9), ?_⟩ (by dsimp only; rw [List.length_append, List.length_singleton]; omega)
                · dsimp only
                  rw [List.length_append, List.length_singleton, htk, hD, List.map_append, List.map_singleton, hpt]
                · intro x hx
                  rcases List.mem_append.1 hx with hx | hx
                  · exact hDok x hx
                  · obtain rfl := List.mem_singleton.1 hx; exact htok
                · exact hasc2
                · dsimp only
                  rw [List.map_append, List.map_singleton, List.map_append, List.map_singleton, flat_snoc]
                  exact H
            · clear H; intro w H
              refine r_bsl (cells := [.int _ _, .int _ _]) tt87 tt90 rfl (by rfl) H ?_
              clear H; intro b63 w hb63 H
              refine ⟨_, _, RO.le.refl _, H, ?_⟩
              refine Ver.nextX 2 (by kernel_rfl) rfl (by kernel_rfl) ?_
              clear H; intro w H
              refine r_bsl (cells := [.string _]) tt86 tt9 rfl (by rfl) H ?_
              clear H; intro b59 w hb59 H
              refine ⟨_, _, RO.le.refl _, H, ?_⟩
              refine Ver.nextX 3 (by kernel_rfl) rfl (by kernel_rfl) ?_
              clear H; intro w H
              refine r_appendO (m := 1) tt86 tt9 tt86 (by intro k hk; cases hk) rfl rfl rfl H (by repeat constructor) (by repeat constructor) rfl rfl rfl rfl (by rw [List.length_map]; omega) ?_
              clear H; intro v60 w H
              refine ⟨_, _, RO.le.refl _, H, ?_⟩
              refine Ver.nextX 7 (by kernel_rfl) rfl (by kernel_rfl) ?_
              clear H; intro w H
              refine r_appendO (m := 1) tt87 tt90 tt87 (by intro k hk; cases hk) rfl rfl rfl H (by repeat constructor) (by repeat constructor) rfl rfl rfl rfl (by rw [flat_length, List.length_map]; omega) ?_
              clear H; intro v64 w H
              refine ⟨_, _, RO.le.refl _, H, ?_⟩
              refine Ver.nextX 8 (by kernel_rfl) rfl (by kernel_rfl) ?_
              clear H; intro w H
              refine r_as (v := v60) rfl ?_
              refine ⟨_, _, RO.le.refl _, H, ?_⟩
              refine Ver.nextX 9 (by kernel_rfl) rfl (by kernel_rfl) ?_
              clear H; intro w H
              refine r_as (v := v64) rfl ?_
              refine ⟨_, _, RO.le.refl _, H, ?_⟩
              refine Ver.finX (by kernel_rfl) ?_
              clear H; intro w H
              refine Goes.inBlock (Goes.region ?_)
              first | refine GoL.stepS rfl rfl (r_addI rfl rfl (by first | omega | (dsimp only; omega)) (by first | omega | (dsimp only; omega)) ?_) | refine GoL.stepS rfl rfl (r_add rfl rfl ?_)
              refine GoL.stepS rfl rfl (mvI rfl ?_)
              refine GoL.nil ?_
              have H : Hp E M9 [sl 9 1 v60 ((D.map fun t => st (decDigits t.1)) ++ [st (decDigits t.1)]), sl 90 2 v64 (flat (D.map (·.2)) ++ [.int .i64 (t.2.1 : Int), .int .i64 (t.2.2 : Int)]), pt b2 (.cells #[.map none] 24 (0, 0))] w := H.sel (.cons (by repeat constructor) (.cons (by repeat constructor) (.cons (by repeat constructor) .nil)))
              obtain ⟨a6, n6, c6, rfl, _, _, _⟩ := H.slShape (.tail .head)
              refine again (D ++ [t], v60, (a6, n6, c6), M9, []) _ _ ⟨by show Value.int .i64 _ = Value.int .i64 _; rw [List.length_append]; rfl, rfl, rfl, trivial⟩ (.of_strip (by kernel_rfl)) ⟨by dsimp only; rw [List.length_append, List.length_singleton]; omega, ?_, ?_, ?_, RO.le.trans hM1 (RO.le.trans hM34 hle9), ?_⟩ (by dsimp only; rw [List.length_append, List.length_singleton]; omega)
              · dsimp only
                rw [List.length_append, List.length_singleton, htk, hD, List.map_append, List.map_singleton, hpt]
              · intro x hx
                rcases List.mem_append.1 hx with hx | hx
                · exact hDok x hx
                · obtain rfl := List.mem_singleton.1 hx; exact htok
              · exact hasc2
              · dsimp only
                rw [List.map_append, List.map_singleton, List.map_append, List.map_singleton, flat_snoc]
                exact H
          · obtain ⟨D', l, hDl2⟩ : ∃ D' l, D = D' ++ [l] := by
              rcases List.eq_nil_or_concat D with h | ⟨D', l, h⟩
              · exact absurd h hD0
              · exact ⟨D', l, by rw [h, List.concat_eq_append]⟩
            have hDl3 : D.length = D'.length + 1 := by rw [hDl2]; simp
            obtain ⟨b5, rfl⟩ := ha5 (by omega)
            have hks : (D.map (·.2))[D'.length]? = some l.2 := by rw [hDl2]; simp
            refine GoL.stepS rfl rfl (mvT rfl ?_)
            refine GoL.stepS rfl rfl (r_extract rfl rfl ?_)
            refine GoL.stepS rfl rfl (r_extract rfl rfl ?_)
            refine GoL.stepS rfl rfl (r_extract rfl rfl ?_)
            refine GoL.stepS rfl rfl (r_alloc tt90 H ?_); clear H; intro b9 w hb9 H
            refine GoL.stepS rfl rfl (asS rfl ?_)
            refine GoL.step0 rfl (stA tt90 rfl rfl H (by repeat constructor) rfl rfl (by rfl) ?_); clear H; intro w H
            refine GoL.stepS rfl rfl (asB rfl ?_)
            refine GoL.nil ?_
            refine Goes.seq (Goes.seq ?_)
            refine Goes.regionD0 mixed (by kernel_rfl) 19 H ?_
            refine Ver.read (v := .bool _) 0 rfl (by kernel_rfl) (fun M' L' w hM H => mvB rfl ⟨rfl, rfl⟩) ?_
            refine Ver.read (v := .bool _) 1 rfl (by kernel_rfl) (fun M' L' w hM H => r_not rfl ⟨rfl, rfl⟩) ?_
            refine Ver.read (v := .bool _) 2 rfl (by kernel_rfl) (fun M' L' w hM H => mvB rfl ⟨rfl, rfl⟩) ?_
            refine Ver.readY (v := .slice _ _ _) 3 rfl (by kernel_rfl) rfl (fun M' L' w hM H => mvL rfl ⟨rfl, rfl⟩) ?_
            refine Ver.readY (v := .int _ _) 4 rfl (by kernel_rfl) rfl (fun M' L' w hM H => r_lenSlice tt87 rfl ⟨rfl, rfl⟩) ?_
            refine Ver.readY (v := .bool _) 5 rfl (by kernel_rfl) rfl (fun M' L' w hM H => r_gtrT rfl rfl (by first | omega | (dsimp only; omega)) ⟨rfl, rfl⟩) ?_
            refine Ver.readY (v := .bool _) 6 rfl (by kernel_rfl) rfl (fun M' L' w hM H => mvB rfl ⟨rfl, rfl⟩) ?_
            refine Ver.readY (v := .slice _ _ _) 7 rfl (by kernel_rfl) rfl (fun M' L' w hM H => mvL rfl ⟨rfl, rfl⟩) ?_
            refine Ver.readY (v := .slice _ _ _) 8 rfl (by kernel_rfl) rfl (fun M' L' w hM H => mvL rfl ⟨rfl, rfl⟩) ?_
            refine Ver.readY (v := .int _ _) 9 rfl (by kernel_rfl) rfl (fun M' L' w hM H => r_lenSlice tt87 rfl ⟨rfl, rfl⟩) ?_
            refine Ver.readY (v := .int _ _) 10 rfl (by kernel_rfl) rfl (fun M' L' w hM H => r_subR ((D'.length : Nat) : Int) rfl rfl (by first | omega | (dsimp only; omega)) (by first | omega | (dsimp only; omega)) (by first | omega | (dsimp only; omega)) ⟨rfl, rfl⟩) ?_
            refine Ver.readY (v := .pointer _) 11 rfl (by kernel_rfl) rfl (fun M' L' w hM H => r_indexAddrN (j := D'.length) tt87 tt90 rfl rfl (by first | omega | (dsimp only; omega)) ⟨rfl, rfl⟩) ?_
            refine Ver.readY (v := .agg _) 12 rfl (by kernel_rfl) rfl (fun M' L' w hM H => r_ldSlA (cs := [.int .i64 (l.2.1 : Int), .int .i64 (l.2.2 : Int)]) tt90 rfl H (by repeat constructor) rfl (by first | omega | (dsimp only; omega)) (flat_at hks) ⟨rfl, rfl⟩) ?_
            refine Ver.readY (v := .agg _) 13 rfl (by kernel_rfl) rfl (fun M' L' w hM H => ldA tt90 rfl (H.own (by repeat constructor)) rfl (by rfl) ⟨rfl, rfl⟩) ?_
            refine Ver.next0Y 14 (by kernel_rfl) rfl (by kernel_rfl) rfl ?_
            clear H; intro w H
            refine r_call cc53 (order_spec (a := (l.2.1 : Int)) (b := (l.2.2 : Int)) (c := (t.2.1 : Int)) (d := (t.2.2 : Int))) H ?_
            clear H; rintro v52 M52 L52 w hM52 ⟨rfl, rfl⟩ H; replace H := H.right
            refine ⟨_, hM52, H, ?_⟩
            refine Ver.readY (v := .bool _) 15 rfl (by kernel_rfl) rfl (fun M' L' w hM H => r_geq rfl rfl ⟨rfl, rfl⟩) ?_
            refine Ver.readY (v := .bool _) 16 rfl (by kernel_rfl) rfl (fun M' L' w hM H => r_pickT (v := .bool _) rfl rfl ⟨rfl, rfl⟩) ?_
            refine Ver.read (v := .bool _) 17 rfl (by kernel_rfl) (fun M' L' w hM H => r_pickF (v := .bool _) rfl rfl ⟨rfl, rfl⟩) ?_
            refine Ver.fin0 (by kernel_rfl) ?_
            clear H; intro w H
            refine Goes.cond rfl (fun hord => ?_) (fun hord => ?_)
            · have hord' : ¬ kl (l.2.1, l.2.2) (t.2.1, t.2.2) := ordI_kl.1 (of_decide_eq_true hord)
              refine Goes.seq (Goes.region ?_)
              refine GoL.stepS rfl rfl (bld (cells := [.map _]) tt24 pl24 pz24 rfl (by rfl) ?_)
              refine GoL.step0 rfl (stA tt24 rfl rfl H (by repeat constructor) rfl rfl (by rfl) ?_); clear H; intro w H
              refine GoL.stepS rfl rfl (asI rfl ?_)
              refine GoL.nil ?_
              refine Goes.ret (ret2 (v := .agg #[.map _]) (v' := .int _ _) rfl rfl (res_agg rfl tt24 (H.own (by repeat constructor)) rfl (by rfl)) rfl H.nil ⟨rfl, _, 3, rfl, .inr (.inr ⟨hz', ?_, rfl, .zero _⟩)⟩)
              rintro ⟨L, hT, he⟩
              obtain ⟨t2, R, h1, h2⟩ := hat L hT he
              have h3 : t = t2 := tmL_inj htok (hT.ok t2 (by rw [h1]; simp)) (by rw [← hpt, h2])
              subst h3
              have hasc := hT.asc
              rw [h1, hDl2] at hasc
              have := (List.pairwise_append.1 hasc).2.2 l (by simp) t (by simp)
              exact hord' this
            · have hord' : kl l.2 t.2 := by
                have := of_decide_eq_false hord
                rw [ordI_kl] at this
                exact Classical.not_not.1 this
              have hasc2 : (D ++ [t]).Pairwise fun s t => kl s.2 t.2 := by
                refine List.pairwise_append.2 ⟨hDasc, by simp, fun x hx y hy => ?_⟩
                obtain rfl := List.mem_singleton.1 hy
                rw [hDl2] at hx hDasc
                rcases List.mem_append.1 hx with hx | hx
                · exact ((List.pairwise_append.1 hDasc).2.2 x hx l (by simp)).trans hord'
                · obtain rfl := List.mem_singleton.1 hx; exact hord'
              refine Goes.skip ?_
              obtain ⟨M9, hb9, hle9, H⟩ := H.freezeX (i := 0) .head
              refine Goes.regionDX mixed (by kernel_rfl) 11 H ?_
              refine Ver.read (v := (v4)) 0 rfl (by kernel_rfl) (fun M' L' w hM H => r_mv (v := v4) rfl ⟨rfl, rfl⟩) ?_
              refine Ver.read (v := .string _) 1 rfl (by kernel_rfl) (fun M' L' w hM H => mvS rfl ⟨rfl, rfl⟩) ?_
              refine Ver.read (v := .slice _ _ _) 4 rfl (by kernel_rfl) (fun M' L' w hM H => mvL rfl ⟨rfl, rfl⟩) ?_
              refine Ver.read (v := .agg _) 5 rfl (by kernel_rfl) (fun M' L' w hM H => ldA tt90 rfl (H.ro (hM _ _ hb9)) rfl (by rfl) ⟨rfl, rfl⟩) ?_
              refine Ver.nextsX2 2 6 (by kernel_rfl) rfl rfl (by kernel_rfl) (by kernel_rfl) rfl rfl ?_ ?_
              · clear H; intro w H
                refine r_bsl (cells := [.string _]) tt86 tt9 rfl (by rfl) H ?_
                clear H; intro b59 w hb59 H
                refine ⟨_, _, RO.le.refl _, H, ?_⟩
                refine Ver.nextsX2 3 6 (by kernel_rfl) rfl rfl (by kernel_rfl) (by kernel_rfl) rfl rfl ?_ ?_
                · clear H; intro w H
                  refine r_appendO (m := 1) tt86 tt9 tt86 (by intro k hk; cases hk) rfl rfl rfl H (by repeat constructor) (by repeat constructor) rfl rfl rfl rfl (by rw [List.length_map]; omega) ?_
                  clear H; intro v60 w H
                  refine ⟨_, _, RO.le.refl _, H, ?_⟩
                  refine Ver.nextX 6 (by kernel_rfl) rfl (by kernel_rfl) ?_
                  clear H; intro w H
                  refine r_bsl (cells := [.int _ _, .int _ _]) tt87 tt90 rfl (by rfl) H ?_
                  clear H; intro b63 w hb63 H
                  refine ⟨_, _, RO.le.refl _, H, ?_⟩
                  refine Ver.nextX 7 (by kernel_rfl) rfl (by kernel_rfl) ?_
                  clear H; intro w H
                  refine r_appendO (m := 1) tt87 tt90 tt87 (by intro k hk; cases hk) rfl rfl rfl H (by repeat constructor) (by repeat constructor) rfl rfl rfl rfl (by rw [flat_length, List.length_map]; omega) ?_
                  clear H; intro v64 w H
                  refine ⟨_, _, RO.le.refl _, H, ?_⟩
                  refine Ver.nextX 8 (by kernel_rfl) rfl (by kernel_rfl) ?_
                  clear H; intro w H
                  refine r_as (v := v60) rfl ?_
                  refine ⟨_, _, RO.le.refl _, H, ?_⟩
                  refine Ver.nextX 9 (by kernel_rfl) rfl (by kernel_rfl) ?_
                  clear H; intro w H
                  refine r_as (v := v64) rfl ?_
                  refine ⟨_, _, RO.le.refl _, H, ?_⟩
                  refine Ver.finX (by kernel_rfl) ?_
                  clear H; intro w H
                  refine Goes.inBlock (Goes.region ?_)
                  first | refine GoL.stepS rfl rfl (r_addI rfl rfl (by first | omega | (dsimp only; omega)) (by first | omega | (dsimp only; omega)) ?_) | refine GoL.stepS rfl rfl (r_add rfl rfl ?_)
                  refine GoL.stepS rfl rfl (mvI rfl ?_)
                  refine GoL.nil ?_
                  have H : Hp E M9 [sl 9 1 v60 ((D.map fun t => st (decDigits t.1)) ++ [st (decDigits t.1)]), sl 90 2 v64 (flat (D.map (·.2)) ++ [.int .i64 (t.2.1 : Int), .int .i64 (t.2.2 : Int)]), pt b2 (.cells #[.map none] 24 (0, 0))] w := H.sel (.cons (by repeat constructor) (.cons (by repeat constructor) (.cons (by repeat constructor) .nil)))
                  obtain ⟨a6, n6, c6, rfl, _, _, _⟩ := H.slShape (.tail .head)
                  refine again (D ++ [t], v60, (a6, n6, c6), M9, []) _ _ ⟨by show Value.int .i64 _ = Value.int .i64 _; rw [List.length_append]; rfl, rfl, rfl, trivial⟩ (.of_strip (by kernel_rfl)) ⟨by dsimp only; rw [List.length_append, List.length_singleton]; omega, ?_, ?_, ?_, RO.le.trans hM1 (RO.le.trans hM34 hle9), ?_⟩ (by dsimp only; rw [List.length_append, List.length_singleton]; omega)
                  · dsimp only
                    rw [List.length_append, List.length_singleton, htk, hD, List.map_append, List.map_singleton, hpt]
                  · intro x hx
                    rcases List.mem_append.1 hx with hx | hx
                    · exact hDok x hx
                    · obtain rfl := List.mem_singleton.1 hx; exact htok
                  · exact hasc2
                  · dsimp only
                    rw [List.map_append, List.map_singleton, List.map_append, List.map_singleton, flat_snoc]
                    exact H
                · clear H; intro w H
                  refine r_bsl (cells := [.int _ _, .int _ _]) tt87 tt90 rfl (by rfl) H ?_
                  clear H; intro b63 w hb63 H
                  refine ⟨_, _, RO.le.refl _, H, ?_⟩
                  refine Ver.nextX 3 (by kernel_rfl) rfl (by kernel_rfl) ?_
                  clear H; intro w H
                  refine r_appendO (m := 1) tt86 tt9 tt86 (by intro k hk; cases hk) rfl rfl rfl H (by repeat constructor) (by repeat constructor) rfl rfl rfl rfl (by rw [List.length_map]; omega) ?_
                  clear H; intro v60 w H
                  refine ⟨_, _, RO.le.refl _, H, ?_⟩
                  refine Ver.nextX 7 (by kernel_rfl) rfl (by kernel_rfl) ?_
                  clear H; intro w H
                  refine r_appendO (m := 1) tt87 tt90 tt87 (by intro k hk; cases hk) rfl rfl rfl H (by repeat constructor) (by repeat constructor) rfl rfl rfl rfl (by rw [flat_length, List.length_map]; omega) ?_
                  clear H; intro v64 w H
                  refine ⟨_, _, RO.le.refl _, H, ?_⟩
                  refine Ver.nextX 8 (by kernel_rfl) rfl (by kernel_rfl) ?_
                  clear H; intro w H
                  refine r_as (v := v60) rfl ?_
                  refine ⟨_, _, RO.le.refl _, H, ?_⟩
                  refine Ver.nextX 9 (by kernel_rfl) rfl (by kernel_rfl) ?_
                  clear H; intro w H
                  refine r_as (v := v64) rfl ?_
                  refine ⟨_, _, RO.le.refl _, H, ?_⟩
                  refine Ver.finX (by kernel_rfl) ?_
                  clear H; intro w H
                  refine Goes.inBlock (Goes.region ?_)
                  first | refine GoL.stepS rfl rfl (r_addI rfl rfl (by first | omega | (dsimp only; omega)) (by first | omega | (dsimp only; omega)) ?_) | refine GoL.stepS rfl rfl (r_add rfl rfl ?_)
                  refine GoL.stepS rfl rfl (mvI rfl ?_)
                  refine GoL.nil ?_
                  have H : Hp E M9 [sl 9 1 v60 ((D.map fun t => st (decDigits t.1)) ++ [st (decDigits t.1)]), sl 90 2 v64 (flat (D.map (·.2)) ++ [.int .i64 (t.2.1 : Int), .int .i64 (t.2.2 : Int)]), pt b2 (.cells #[.map none] 24 (0, 0))] w := H.sel (.cons (by repeat constructor) (.cons (by repeat constructor) (.cons (by repeat constructor) .nil)))
                  obtain ⟨a6, n6, c6, rfl, _, _, _⟩ := H.slShape (.tail .head)
                  refine again (D ++ [t], v60, (a6, n6, c6), M9, []) _ _ ⟨by show Value.int .i64 _ = Value.int .i64 _; rw [List.length_append]; rfl, rfl, rfl, trivial⟩ (.of_strip (by kernel_rfl)) ⟨by dsimp only; rw [List.length_append, List.length_singleton]; omega, ?_, ?_, ?_, RO.le.trans hM1 (RO.le.trans hM34 hle9), ?_⟩ (by dsimp only; rw [List.length_append, List.length_singleton]; omega)
                  · dsimp only
                    rw [List.length_append, List.length_singleton, htk, hD, List.map_append, List.map_singleton, hpt]
                  · intro x hx
                    rcases List.mem_append.1 hx with hx | hx
                    · exact hDok x hx
                    · obtain rfl := List.mem_singleton.1 hx; exact htok
                  · exact hasc2
                  · dsimp only
                    rw [List.map_append, List.map_singleton, List.map_append, List.map_singleton, flat_snoc]
                    exact H
              · clear H; intro w H
                refine r_bsl (cells := [.int _ _, .int _ _]) tt87 tt90 rfl (by rfl) H ?_
                clear H; intro b63 w hb63 H
                refine ⟨_, _, RO.le.refl _, H, ?_⟩
                refine Ver.nextX 2 (by kernel_rfl) rfl (by kernel_rfl) ?_
                clear H; intro w H
                refine r_bsl (cells := [.string _]) tt86 tt9 rfl (by rfl) H ?_
                clear H; intro b59 w hb59 H
                refine ⟨_, _, RO.le.refl _, H, ?_⟩
                refine Ver.nextX 3 (by kernel_rfl) rfl (by kernel_rfl) ?_
                clear H; intro w H
                refine r_appendO (m := 1) tt86 tt9 tt86 (by intro k hk; cases hk) rfl rfl rfl H (by repeat constructor) (by repeat constructor) rfl rfl rfl rfl (by rw [List.length_map]; omega) ?_
                clear H; intro v60 w H
                refine ⟨_, _, RO.le.refl _, H, ?_⟩
                refine Ver.nextX 7 (by kernel_rfl) rfl (by kernel_rfl) ?_
                clear H; intro w H
                refine r_appendO (m := 1) tt87 tt90 tt87 (by intro k hk; cases hk) rfl rfl rfl H (by repeat constructor) (by repeat constructor) rfl rfl rfl rfl (by rw [flat_length, List.length_map]; omega) ?_
                clear H; intro v64 w H
                refine ⟨_, _, RO.le.refl _, H, ?_⟩
                refine Ver.nextX 8 (by kernel_rfl) rfl (by kernel_rfl) ?_
                clear H; intro w H
                refine r_as (v := v60) rfl ?_
                refine ⟨_, _, RO.le.refl _, H, ?_⟩
                refine Ver.nextX 9 (by kernel_rfl) rfl (by kernel_rfl) ?_
                clear H; intro w H
                refine r_as (v := v64) rfl ?_
                refine ⟨_, _, RO.le.refl _, H, ?_⟩
                refine Ver.finX (by kernel_rfl) ?_
                clear H; intro w H
                refine Goes.inBlock (Goes.region ?_)
                first | refine GoL.stepS rfl rfl (r_addI rfl rfl (by first | omega | (dsimp only; omega)) (by first | omega | (dsimp only; omega)) ?_) | refine GoL.stepS rfl rfl (r_add rfl rfl ?_)
                refine GoL.stepS rfl rfl (mvI rfl ?_)
                refine GoL.nil ?_
                have H : Hp E M9 [sl 9 1 v60 ((D.map fun t => st (decDigits t.1)) ++ [st (decDigits t.1)]), sl 90 2 v64 (flat (D.map (·.2)) ++ [.int .i64 (t.2.1 : Int), .int .i64 (t.2.2 : Int)]), pt b2 (.cells #[.map none] 24 (0, 0))] w := H.sel (.cons (by repeat constructor) (.cons (by repeat constructor) (.cons (by repeat constructor) .nil)))
                obtain ⟨a6, n6, c6, rfl, _, _, _⟩ := H.slShape (.tail .head)
                refine again (D ++ [t], v60, (a6, n6, c6), M9, []) _ _ ⟨by show Value.int .i64 _ = Value.int .i64 _; rw [List.length_append]; rfl, rfl, rfl, trivial⟩ (.of_strip (by kernel_rfl)) ⟨by dsimp only; rw [List.length_append, List.length_singleton]; omega, ?_, ?_, ?_, RO.le.trans hM1 (RO.le.trans hM34 hle9), ?_⟩ (by dsimp only; rw [List.length_append, List.length_singleton]; omega)
                · dsimp only
                  rw [List.length_append, List.length_singleton, htk, hD, List.map_append, List.map_singleton, hpt]
                · intro x hx
                  rcases List.mem_append.1 hx with hx | hx
                  · exact hDok x hx
                  · obtain rfl := List.mem_singleton.1 hx; exact htok
                · exact hasc2
                · dsimp only
                  rw [List.map_append, List.map_singleton, List.map_append, List.map_singleton, flat_snoc]
                  exact H
        · refine GoL.stepS rfl rfl (mvT rfl ?_)
          refine GoL.stepS rfl rfl (r_extract rfl rfl ?_)
          refine GoL.stepS rfl rfl (r_extract rfl rfl ?_)
          refine GoL.stepS rfl rfl (r_extract rfl rfl ?_)
          refine GoL.stepS rfl rfl (r_alloc tt90 H ?_); clear H; intro b9 w hb9 H
          refine GoL.stepS rfl rfl (asS rfl ?_)
          refine GoL.step0 rfl (stA tt90 rfl rfl H (by repeat constructor) rfl rfl (by rfl) ?_); clear H; intro w H
          refine GoL.stepS rfl rfl (asB rfl ?_)
          refine GoL.nil ?_
          refine Goes.seq (Goes.seq ?_)
          refine Goes.regionD0 mixed (by kernel_rfl) 19 H ?_
          refine Ver.read (v := .bool _) 0 rfl (by kernel_rfl) (fun M' L' w hM H => mvB rfl ⟨rfl, rfl⟩) ?_
          refine Ver.read (v := .bool _) 1 rfl (by kernel_rfl) (fun M' L' w hM H => r_not rfl ⟨rfl, rfl⟩) ?_
          refine Ver.read (v := .bool _) 2 rfl (by kernel_rfl) (fun M' L' w hM H => mvB rfl ⟨rfl, rfl⟩) ?_
          refine Ver.readN 3 rfl (by kernel_rfl) (by intro e; cases e) ?_
          refine Ver.readN 4 rfl (by kernel_rfl) (by intro e; cases e) ?_
          refine Ver.readN 5 rfl (by kernel_rfl) (by intro e; cases e) ?_
          refine Ver.readN 6 rfl (by kernel_rfl) (by intro e; cases e) ?_
          refine Ver.readN 7 rfl (by kernel_rfl) (by intro e; cases e) ?_
          refine Ver.readN 8 rfl (by kernel_rfl) (by intro e; cases e) ?_
          refine Ver.readN 9 rfl (by kernel_rfl) (by intro e; cases e) ?_
          refine Ver.readN 10 rfl (by kernel_rfl) (by intro e; cases e) ?_
          refine Ver.readN 11 rfl (by kernel_rfl) (by intro e; cases e) ?_
          refine Ver.readN 12 rfl (by kernel_rfl) (by intro e; cases e) ?_
          refine Ver.readN 13 rfl (by kernel_rfl) (by intro e; cases e) ?_
          refine Ver.readN 14 rfl (by kernel_rfl) (by intro e; cases e) ?_
          refine Ver.readN 15 rfl (by kernel_rfl) (by intro e; cases e) ?_
          refine Ver.readN 16 rfl (by kernel_rfl) (by intro e; cases e) ?_
          refine Ver.read (v := .bool _) 17 rfl (by kernel_rfl) (fun M' L' w hM H => r_pickT (v := .bool true) rfl rfl ⟨rfl, rfl⟩) ?_
          refine Ver.fin0 (by kernel_rfl) ?_
          clear H; intro w H
          refine Goes.condT rfl (rfl) ?_
          refine Goes.seq (Goes.region ?_)
          refine GoL.stepS rfl rfl (bld (cells := [.map _]) tt24 pl24 pz24 rfl (by rfl) ?_)
          refine GoL.step0 rfl (stA tt24 rfl rfl H (by repeat constructor) rfl rfl (by rfl) ?_); clear H; intro w H
          refine GoL.stepS rfl rfl (asI rfl ?_)
          refine GoL.nil ?_
          refine Goes.ret (ret2 (v := .agg #[.map _]) (v' := .int _ _) rfl rfl (res_agg rfl tt24 (H.own (by repeat constructor)) rfl (by rfl)) rfl H.nil ⟨rfl, _, 3, rfl, .inr (.inr ⟨hz', ?_, rfl, .zero _⟩)⟩)
          rintro ⟨L, hT, he⟩
          obtain ⟨t2, R, h1, h2⟩ := hat L hT he
          have := readW_complete (hT.ok t2 (by rw [h1]; simp))
          rw [← h2, hread] at this
          cases this
      · have hDn : D.length = ps.length := by have : ¬ (D.length : Int) < (ps.length : Int) := by simpa using hlt
                                              omega
        rw [hDn, List.take_length] at hD
        refine Goes.exit rfl ?_
        exact meet (D, v4, (a5, n5, c5), M1, L1) _ _ ⟨rfl, rfl, trivial⟩ (.of_strip2 (by kernel_rfl)) ⟨hD, hDok, hDasc, RO.le.trans hM26 hM1, H⟩
    case aft =>
      clear H
      rintro ⟨D, v4, ⟨a5, n5, c5⟩, M1, L1⟩ f3 w ⟨hD, hDok, hDasc, hM1, H⟩
      dsimp only at hD hDok hDasc hM1 H
      have hD0 : D ≠ [] := by intro h; subst h; exact hps' hD
      have hsT : s = textT D := by rw [← hjoin, hD]; rfl
      have hT : Terms D := ⟨hD0, hDok, hDasc⟩
      have hDl : D.length ≤ 2002 := by rw [hD, List.length_map] at hpc; exact hpc
      have hdl : ∀ t ∈ D, (decDigits t.1).length ≤ 2000 := by
        intro t ht
        have h1 := hpl (tmL t) (by rw [hD]; exact List.mem_map_of_mem ht)
        have : (decDigits t.1).length ≤ (tmL t).length := by unfold tmL; rw [List.length_append]; omega
        omega
      obtain ⟨M2, a2, n2, c2, heq, hl5, hc5, hrow5, hle2, H'⟩ := H.freezeSl (.tail .head)
      clear H
      cases heq
      obtain ⟨M3, a4, n4, c4, rfl, hl4, hc4, hrow4, hle3, H⟩ := H'.freezeSl .head
      clear H'
      have hrow5 := hrow5.mono hle3
      rw [flat_length, List.length_map] at hl5
      rw [List.length_map] at hl4
      have hn5 : n5 = (D.map (·.2)).length := by rw [List.length_map]; omega
      have hn4 : n4 = D.length := by omega
      subst hn5
      subst hn4
      have hfl : (D.map (·.2)).length = D.length := List.length_map _
      refine Goes.seq (Goes.seq (Goes.region ?_))
      refine GoL.stepS rfl rfl (mvL rfl ?_)
      refine GoL.stepS rfl rfl (r_call cc54 (containsFar_spec hrow5 (by first | omega | (dsimp only; omega))) H ?_); clear H; rintro v67 M67 L67 w hM67 ⟨rfl, rfl, tf, rfl, hfar⟩ H
      refine GoL.nil ?_
      refine Goes.cond rfl (fun htf => ?_) (fun htf => ?_)
      · obtain ⟨k, hk, hk2⟩ := hfar.1 htf
        obtain ⟨t, ht, rfl⟩ := List.mem_map.1 hk
        refine Goes.seq (Goes.region ?_)
        refine GoL.stepS rfl rfl (bld (cells := [.map _]) tt24 pl24 pz24 rfl (by rfl) ?_)
        refine GoL.step0 rfl (stA tt24 rfl rfl H (by repeat constructor) rfl rfl (by rfl) ?_); clear H; intro w H
        refine GoL.stepS rfl rfl (asI rfl ?_)
        refine GoL.nil ?_
        refine Goes.ret (ret2 (v := .agg #[.map _]) (v' := .int _ _) rfl rfl (res_agg rfl tt24 (H.own (by repeat constructor)) rfl (by rfl)) rfl H.nil ⟨rfl, _, 2, rfl, .inr (.inl ⟨D, hT, hsT, .inr ⟨fun h => ?_, rfl, .zero _⟩⟩)⟩)
        have := h t ht
        omega
      · have hbx : ∀ t ∈ D, t.2.1 ≤ 2048 ∧ t.2.2 ≤ 2048 := by
          intro t ht
          have : ¬ ∃ k ∈ D.map (·.2), 2048 < max k.1 k.2 := fun h => by rw [hfar.2 h] at htf; cases htf
          have h2 : ¬ 2048 < max t.2.1 t.2.2 := fun h => this ⟨t.2, List.mem_map_of_mem ht, h⟩
          omega
        obtain ⟨N, hN⟩ : ∃ N, N = 2000 := ⟨_, rfl⟩
        have hlimx : ∀ t ∈ D, t.1 < 10 ^ N := by
          intro t ht
          have h1 := valL_lt (decDigits_all t.1)
          rw [valL_decDigits] at h1
          exact Nat.lt_of_lt_of_le h1 (Nat.pow_le_pow_right (by decide) (hN ▸ hdl t ht))
        have hlimf : ∀ i a b, lim (10 + N) (fOf (D.take i) a b) := by
          intro i a b
          refine pow10_lim ?_
          have h1 : fOf (D.take i) a b ≤ (D.take i).length * 10 ^ N := sumL_le fun t ht => by
            split
            · exact Nat.le_of_lt (hlimx t (List.mem_of_mem_take ht))
            · exact Nat.zero_le _
          have h2 : (D.take i).length * 10 ^ N ≤ 2002 * 10 ^ N := Nat.mul_le_mul_right _ (by rw [List.length_take]; omega)
          have h3 : 0 < (10 : Nat) ^ N := Nat.pow_pos (by decide)
          rw [Nat.pow_add]
          generalize (10 : Nat) ^ N = z at *
          have : (10 : Nat) ^ 10 = 10000000000 := rfl
          rw [this]; omega
        refine Goes.skip (Goes.seq (Goes.region ?_))
        refine GoL.stepS rfl rfl (r_call cc56 (made_spec) H ?_); clear H; rintro v69 M69 L69 w hM69 ⟨rfl, q, rfl, rfl⟩ H
        refine GoL.stepS rfl rfl (r_alloc tt24 H ?_); clear H; intro b11 w hb11 H
        refine GoL.step0 rfl (stA tt24 rfl rfl H (by repeat constructor) rfl rfl (by rfl) ?_); clear H; intro w H
        refine GoL.nil ?_
        refine Goes.seq (Goes.seq (Goes.region ?_))
        refine GoL.stepS rfl rfl (mvL rfl ?_)
        refine GoL.stepS rfl rfl (r_lenSlice tt87 rfl ?_)
        refine GoL.stepS rfl rfl (mvI rfl ?_)
        refine GoL.nil ?_
        refine Goes.block ?_
        refine Goes.loopS (3 :: 12 :: 13 :: 14 :: 15 :: 72 :: 73 :: 74 :: 75 :: 76 :: 77 :: 78 :: 79 :: 80 :: 81 :: 82 :: 83 :: 84 :: 85 :: 86 :: 87 :: 88 :: 89 :: 90 :: 91 :: 92 :: 93 :: []) (fun (x : Nat × List MapEntry × Nat × RO × List HProp) => [(72, .int .i64 (x.1 : Int))]) (fun x w => x.1 ≤ D.length ∧ MOk Tryz.prog 90 x.2.1 x.2.2.1 ∧ Ents x.2.2.2.1 (fOf (D.take x.1)) x.2.1 ∧ M69.le x.2.2.2.1 ∧ Hp E x.2.2.2.1 (pt q (.map x.2.1.toArray x.2.2.1) :: pt b11 (.cells #[.map (some q)] 24 (0, 0)) :: pt b2 (.cells #[.map none] 24 (0, 0)) :: x.2.2.2.2) w) (fun x => D.length - x.1) (0, [], 0, M69, []) ⟨rfl, trivial⟩ ⟨Nat.zero_le _, .nil _ _ _, .nil _, RO.le.refl _, H.sel (.cons (by repeat constructor) (.cons (by repeat constructor) (.cons (by repeat constructor) .nil)))⟩ ?_
        clear H
        rintro ⟨i, es, ck, M4, L4⟩ f4 w ⟨hi, hm4, hes, hM4, H⟩ again
        dsimp only at hi hm4 hes hM4 H
        refine Goes.seq (Goes.region ?_)
        refine GoL.stepS rfl rfl (r_lss rfl rfl ?_)
        refine GoL.nil ?_
        refine Goes.seq ?_
        refine Goes.cond rfl (fun hlt => ?_) (fun hlt => ?_)
        · have hin : i < D.length := by have : (i : Int) < ((D.map (·.2)).length : Int) := by simpa using hlt
                                        omega
          obtain ⟨t, ht⟩ : ∃ t, D[i]? = some t := ⟨D[i], List.getElem?_eq_getElem hin⟩
          have htm := List.mem_of_getElem? ht
          have htok := hDok t htm
          have htb := hbx t htm
          have hks : (D.map (·.2))[i]? = some t.2 := by rw [List.getElem?_map, ht]; rfl
          obtain ⟨pb, po, pcs, pe, pz, rfl, hMp, hpsz, hpx⟩ := RowP.at hrow5 hks
          obtain ⟨qb, qo, qcs, qe, qz, rfl, hMq, hq0⟩ := hrow4.at (j := i) (v := st (decDigits t.1)) (by rw [List.getElem?_map, ht]; rfl)
          have htk : D.take (i + 1) = D.take i ++ [t] := by rw [List.take_add_one, ht]; rfl
          have hdt := hdl t htm
          refine Goes.skip (Goes.seq (Goes.block (Goes.seq (Goes.region ?_))))
          refine GoL.stepS rfl rfl (mvI rfl ?_)
          refine GoL.stepS rfl rfl (r_indexAddrN tt87 tt90 rfl rfl (by first | omega | (dsimp only; omega)) ?_)
          refine GoL.stepS rfl rfl (r_load (v := .agg #[.int .i64 (t.2.1 : Int), .int .i64 (t.2.2 : Int)]) tt90 rfl (H.ro (hM4 _ _ hMp)) (rd_aggE rfl hpsz hpx) ?_)
          refine GoL.stepS rfl rfl (r_alloc tt90 H ?_); clear H; intro b13 w hb13 H
          refine GoL.stepS rfl rfl (asI rfl ?_)
          refine GoL.step0 rfl (stA tt90 rfl rfl H (by repeat constructor) rfl rfl (by rfl) ?_); clear H; intro w H
          refine GoL.nil ?_
          refine Goes.seq (Goes.region ?_)
          refine GoL.stepS rfl rfl (mvL rfl ?_)
          refine GoL.stepS rfl rfl (mvI rfl ?_)
          refine GoL.stepS rfl rfl (r_indexAddrN tt86 tt9 rfl rfl hin ?_)
          refine GoL.stepS rfl rfl (ldS tt9 rfl (H.ro (hM4 _ _ hMq)) (by rw [Nat.mul_one]; exact hq0) ?_)
          refine GoL.stepS rfl rfl (r_call0 hdr cc57 (natParse_spec (s := decDigits t.1) (isNum_decDigits htok.1) hdt) H ?_); clear H; rintro v82 M82 L82 w hM82 ⟨rfl, v82, rfl, h82⟩ H
          rw [valL_decDigits] at h82
          obtain ⟨va, vn, vc, rfl⟩ := h82.shape
          refine GoL.stepS rfl rfl (mvT rfl ?_)
          refine GoL.stepS rfl rfl (r_extract rfl rfl ?_)
          refine GoL.stepS rfl rfl (r_extract rfl rfl ?_)
          refine GoL.stepS rfl rfl (r_alloc tt49 H ?_); clear H; intro b14 w hb14 H
          refine GoL.step0 rfl (stA tt49 rfl rfl H (by repeat constructor) rfl rfl (by rfl) ?_); clear H; intro w H
          refine GoL.stepS rfl rfl (asI rfl ?_)
          refine GoL.nil ?_
          refine Goes.seq (Goes.seq (Goes.region ?_))
          refine GoL.stepS rfl rfl (mvI rfl ?_)
          refine GoL.stepS rfl rfl (r_neqF rfl rfl (by decide) ?_)
          refine GoL.nil ?_
          refine Goes.condF rfl (rfl) ?_
          refine Goes.skip (Goes.region ?_)
          refine GoL.stepS rfl rfl (ldA tt24 rfl (H.own (by repeat constructor)) rfl (by rfl) ?_)
          refine GoL.stepS rfl rfl (ldA tt90 rfl (H.own (by repeat constructor)) rfl (by rfl) ?_)
          refine GoL.stepS rfl rfl (ldA tt49 rfl (H.own (by repeat constructor)) rfl (by rfl) ?_)
          refine GoL.stepS rfl rfl (r_call cc58 (with_spec (k := 10 + N) hm4 (hes.mono hM82) h82 htb.1 htb.2 (hlimf i _ _) ((pow10_lim (hlimx t htm)).mono (by first | omega | (dsimp only; omega))) (by first | omega | (dsimp only; omega))) (H.front (i := 2) (by repeat constructor)) ?_); clear H; rintro v92 M92 L92 w hM92 ⟨es', ck', rfl, hm', he'⟩ H
          refine GoL.nil ?_
          refine Goes.inBlock (Goes.region ?_)
          first | refine GoL.stepS rfl rfl (r_addI rfl rfl (by first | omega | (dsimp only; omega)) (by first | omega | (dsimp only; omega)) ?_) | refine GoL.stepS rfl rfl (r_add rfl rfl ?_)
          refine GoL.stepS rfl rfl (mvI rfl ?_)
          refine GoL.nil ?_
          refine again (i + 1, es', ck', M92, []) _ _ ⟨rfl, trivial⟩ (.of_strip (by kernel_rfl)) ⟨by first | omega | (dsimp only; omega), hm', ?_, RO.le.trans hM4 (RO.le.trans hM82 hM92), H.sel (.cons (by repeat constructor) (.cons (by repeat constructor) (.cons (by repeat constructor) .nil)))⟩ (by first | omega | (dsimp only; omega))
          dsimp only
          rw [htk, fOf_snoc]; exact he'
        · have hin : i = D.length := by have : ¬ (i : Int) < ((D.map (·.2)).length : Int) := by simpa using hlt
                                        omega
          subst hin
          rw [List.take_length] at hes
          refine Goes.exit rfl (Goes.seq (Goes.region ?_))
          refine GoL.stepS rfl rfl (ldA tt24 rfl (H.own (by repeat constructor)) rfl (by rfl) ?_)
          refine GoL.step0 rfl (stA tt24 rfl rfl H (by repeat constructor) rfl rfl (by rfl) ?_); clear H; intro w H
          refine GoL.stepS rfl rfl (asI rfl ?_)
          refine GoL.nil ?_
          obtain ⟨M5, hq, hle5, H⟩ := H.freezeX (i := 0) .head
          exact Goes.ret (ret2 (v := .agg #[.map _]) (v' := .int _ _) rfl rfl (res_agg rfl tt24 (H.own (by repeat constructor)) rfl (by rfl)) rfl H.nil ⟨rfl, _, 0, rfl, .inr (.inl ⟨D, hT, hsT, .inl ⟨hbx, rfl, polyOf hm4 (hes.mono hle5) hq⟩⟩)⟩)

end Go.Proofs.YtlcpdkckldlceaaGreatDoor
namespace Go.Proofs.YtlcpdkckldlceaaGreatDoor
open Go.Sx Go.Nat32 Go.Dec Go.PolyL Go.Lib Go.Proofs
attribute [local irreducible] pt sl itc itm
set_option maxRecDepth 100000
set_option linter.unusedVariables false
set_option linter.unusedSimpArgs false
set_option maxHeartbeats 1000000

/-- The text of the polynomial f. -/
def TextOf (f : Nat → Nat → Nat) (s : List UInt8) : Prop := ∃ ks : List (Nat × Nat), ks.Pairwise kl ∧ (∀ k, k ∈ ks ↔ f k.1 k.2 ≠ 0) ∧ s = textK f ks
def Boxed (f : Nat → Nat → Nat) : Prop := ∀ a b, f a b ≠ 0 → a ≤ 2048 ∧ b ≤ 2048

theorem sorted_uniq : ∀ {l m : List (Nat × Nat)}, l.Pairwise kl → m.Pairwise kl → (∀ k, k ∈ l ↔ k ∈ m) → l = m
  | [], [], _, _, _ => rfl
  | [], y :: m, _, _, h => absurd ((h y).2 (by simp)) (by simp)
  | x :: l, [], _, _, h => absurd ((h x).1 (by simp)) (by simp)
  | x :: l, y :: m, h1, h2, h => by
    have p1 := List.pairwise_cons.1 h1
    have p2 := List.pairwise_cons.1 h2
    have hxy : x = y := by
      rcases List.mem_cons.1 ((h x).1 (by simp)) with e | e
      · exact e
      · rcases List.mem_cons.1 ((h y).2 (by simp)) with e' | e'
        · exact e'.symm
        · exact absurd ((p1.1 y e').trans (p2.1 x e)) kl.irrefl
    subst hxy
    congr 1
    refine sorted_uniq p1.2 p2.2 fun k => ?_
    constructor
    · intro hk
      rcases List.mem_cons.1 ((h k).1 (by simp [hk])) with rfl | e
      · exact absurd (p1.1 k hk) kl.irrefl
      · exact e
    · intro hk
      rcases List.mem_cons.1 ((h k).2 (by simp [hk])) with rfl | e
      · exact absurd (p2.1 k hk) kl.irrefl
      · exact e
theorem TextOf.uniq {f : Nat → Nat → Nat} {s s' : List UInt8} (h : TextOf f s) (h' : TextOf f s') : s = s' := by
  obtain ⟨ks, h1, h2, rfl⟩ := h
  obtain ⟨ks', h1', h2', rfl⟩ := h'
  rw [sorted_uniq h1 h1' fun k => (h2 k).trans (h2' k).symm]
theorem textK_terms {f : Nat → Nat → Nat} {ks : List (Nat × Nat)} (hb : Boxed f) (h1 : ks.Pairwise kl) (h2 : ∀ k, k ∈ ks ↔ f k.1 k.2 ≠ 0) (h0 : ks ≠ []) : Terms (ks.map fun k => (f k.1 k.2, k.1, k.2)) ∧ textK f ks = textT (ks.map fun k => (f k.1 k.2, k.1, k.2)) := by
  refine ⟨⟨by simpa using h0, fun t ht => ?_, ?_⟩, ?_⟩
  · obtain ⟨k, hk, rfl⟩ := List.mem_map.1 ht
    have hk0 := (h2 k).1 hk
    have := hb _ _ hk0
    exact ⟨hk0, by dsimp only; omega, by dsimp only; omega⟩
  · exact List.pairwise_map.2 (h1.imp fun h => h)
  · rw [textK, if_neg h0]
    unfold termsL textT
    rw [List.map_map]; rfl
theorem TextOf.inj {f g : Nat → Nat → Nat} {s : List UInt8} (h : TextOf f s) (h' : TextOf g s) (hf : Boxed f) (hg : Boxed g) : f = g := by
  obtain ⟨ks, h1, h2, e⟩ := h
  obtain ⟨ks', h1', h2', e'⟩ := h'
  rw [e] at e'
  have hz : ∀ {f : Nat → Nat → Nat}, (∀ k, k ∈ ([] : List (Nat × Nat)) ↔ f k.1 k.2 ≠ 0) → f = fun _ _ => 0 := fun {f} hh => by
    funext a b
    by_cases h0 : f a b = 0
    · exact h0
    · have := (hh (a, b)).2 h0; cases this
  by_cases h0 : ks = []
  · subst h0
    by_cases h0' : ks' = []
    · subst h0'; rw [hz h2, hz h2']
    · obtain ⟨t1, t2⟩ := textK_terms hg h1' h2' h0'
      rw [t2] at e'
      exact absurd e'.symm (terms_ne48 t1)
  · obtain ⟨t1, t2⟩ := textK_terms hf h1 h2 h0
    by_cases h0' : ks' = []
    · subst h0'
      rw [t2] at e'
      exact absurd e' (terms_ne48 t1)
    · obtain ⟨t1', t2'⟩ := textK_terms hg h1' h2' h0'
      rw [t2, t2'] at e'
      have hL := textT_inj t1.ne t1'.ne t1.ok t1'.ok e'
      have hks : ks = ks' := by
        have := congrArg (List.map fun t : Tm => t.2) hL
        rw [List.map_map, List.map_map] at this
        have e1 : ((fun t : Tm => t.2) ∘ fun k : Nat × Nat => (f k.1 k.2, k.1, k.2)) = id := rfl
        have e2 : ((fun t : Tm => t.2) ∘ fun k : Nat × Nat => (g k.1 k.2, k.1, k.2)) = id := rfl
        rw [e1, e2, List.map_id, List.map_id] at this
        exact this
      subst hks
      funext a b
      by_cases hab : (a, b) ∈ ks
      · have := List.map_inj_left.1 hL (a, b) hab
        injection this
      · have n1 : f a b = 0 := Classical.not_not.1 fun h => hab ((h2 (a, b)).2 h)
        have n2 : g a b = 0 := Classical.not_not.1 fun h => hab ((h2' (a, b)).2 h)
        rw [n1, n2]
theorem Ents.boxed {M : RO} {f : Nat → Nat → Nat} {es : List MapEntry} (h : Ents M f es) : Boxed f := fun a b h0 => by
  obtain ⟨e, he, hk⟩ := h.complete a b h0
  have := mem_box.1 (h.ex_box he).1
  have hx : ex e = (a, b) := by unfold ex; rw [hk, kxy_key]
  rw [hx] at this; exact this
theorem PolyV.boxed {M : RO} {v : Value} {f : Nat → Nat → Nat} (h : PolyV M v f) : Boxed f := let ⟨_, _, _, _, _, h3⟩ := h; h3.boxed
theorem RefPm.boxed {M : RO} {v : Value} {f : Nat → Nat → Nat} {m : Nat} (h : RefPm M v f m) : Boxed f := let ⟨_, _, _, _, _, _, h3, _⟩ := h; h3.boxed

theorem pequalT {M : RO} {v u : Value} {f g : Nat → Nat → Nat} (hv : PolyV M v f) (hu : PolyV M u g) (h : f = g) :
    Sp Tryz.prog 24 [v, u] M [] fun r M' L' => L' = [] ∧ M' = M ∧ r = .bool true := by
  refine (pequal_spec hv hu).mono ?_
  rintro r M' L' _ ⟨rfl, rfl, t, rfl, ht⟩
  rw [ht.2 h]; exact ⟨rfl, rfl, rfl⟩

theorem textOf_spec {M : RO} (hT : TabM M) {v : Value} {f : Nat → Nat → Nat} {k : Nat} (hv : PolyV M v f) (lf : ∀ a b, lim k (f a b)) (hk : k ≤ 100000) :
    Sp0 Tryz.prog 16 [v] M [] fun r _ L' => L' = [] ∧ ∃ s, r = st s ∧ TextOf f s :=
  (ptext_spec hT hv lf hk).mono fun _ _ _ _ ⟨h1, ks, h2, h3, h4⟩ => ⟨h1, _, h4, ks, h2, h3, rfl⟩
theorem rtextOf_spec {M : RO} {u : Value} {f : Nat → Nat → Nat} {m k : Nat} (hu : RefPm M u f m) (hm : m ≤ 100000) (lf : ∀ a b, f a b < 10 ^ k) (hk : k ≤ 900000) :
    Sp Tryz.prog 65 [u] M [] fun r _ L' => L' = [] ∧ ∃ s, r = st s ∧ TextOf f s :=
  (rptext_spec hu hm lf hk).mono fun _ _ _ _ ⟨h1, ks, h2, h3, h4⟩ => ⟨h1, _, h4, ks, h2, h3, rfl⟩

theorem alike_spec {M : RO} (hT : TabM M) {v u : Value} {f : Nat → Nat → Nat} {m k : Nat} (hv : PolyV M v f) (hu : RefPm M u f m) (hm : m ≤ 100000) (lf : ∀ a b, f a b < 10 ^ k) (hk : k ≤ 100000) :
    Sp0 Tryz.prog 15 [v, u] M [] fun r _ L' => L' = [] ∧ r = .bool true := by
  obtain ⟨q, rfl⟩ := hv.shape
  obtain ⟨ua, un, uc, rfl⟩ := hu.shape
  refine Sp0.enter (n := 10) Tryz.func15 rfl Tryz.ntmps15 rfl ?_
  intro E hdr hE H
  subst hE
  refine Goes.seq (Goes.region ?_)
  refine GoL.stepS rfl rfl (bxA rfl H ?_); clear H; intro b2 w hb2 H
  refine GoL.stepS rfl rfl (asB rfl ?_)
  refine GoL.nil ?_
  refine Goes.seq (Goes.region ?_)
  refine GoL.stepS rfl rfl (ldA tt24 rfl (H.own (by repeat constructor)) rfl (by rfl) ?_)
  refine GoL.stepS rfl rfl (r_call0 hdr cc16 (textOf_spec hT hv (fun a b => pow10_lim (lf a b)) hk) H ?_); clear H; rintro v6 M6 L6 w hM6 ⟨rfl, s6, rfl, h6⟩ H
  refine GoL.stepS rfl rfl (mvL rfl ?_)
  refine GoL.stepS rfl rfl (r_call cc65 (rtextOf_spec (hu.mono hM6) hm lf (by first | omega | (dsimp only; omega))) H ?_); clear H; rintro v8 M8 L8 w hM8 ⟨rfl, s8, rfl, h8⟩ H
  refine GoL.stepS rfl rfl (r_eqlS (a := s6) (b := s8) rfl rfl ?_)
  refine GoL.stepS rfl rfl (asB rfl ?_)
  refine GoL.nil ?_
  refine Goes.ret (ret1 (v := .bool _) rfl rfl rfl H.nil ⟨rfl, ?_⟩)
  rw [h6.uniq h8]
  have : (s8 == s8) = true := by simp
  rw [this]

theorem rsame_spec {M : RO} {u v : Value} {f g : Nat → Nat → Nat} {m k : Nat} (hu : RefPm M u f m) (hv : RefPm M v g m) (hm : m ≤ 100000) (lf : ∀ a b, f a b < 10 ^ k) (lg : ∀ a b, g a b < 10 ^ k) (hk : k ≤ 100000) :
    Sp Tryz.prog 34 [u, v] M [] fun r _ L' => L' = [] ∧ ∃ t, r = .bool t ∧ (t = true ↔ f = g) := by
  obtain ⟨ua, un, uc, rfl⟩ := hu.shape
  obtain ⟨va, vn, vc, rfl⟩ := hv.shape
  refine Sp.enter (n := 10) Tryz.func34 rfl Tryz.ntmps34 rfl ?_
  intro E hE H
  subst hE
  refine Goes.seq (Goes.region ?_)
  refine GoL.stepS rfl rfl (asB rfl ?_)
  refine GoL.nil ?_
  refine Goes.seq (Goes.region ?_)
  refine GoL.stepS rfl rfl (mvL rfl ?_)
  refine GoL.stepS rfl rfl (r_call cc65 (rtextOf_spec hu hm lf (by first | omega | (dsimp only; omega))) H ?_); clear H; rintro v6 M6 L6 w hM6 ⟨rfl, s6, rfl, h6⟩ H
  refine GoL.stepS rfl rfl (mvL rfl ?_)
  refine GoL.stepS rfl rfl (r_call cc65 (rtextOf_spec (hv.mono hM6) hm lg (by first | omega | (dsimp only; omega))) H ?_); clear H; rintro v8 M8 L8 w hM8 ⟨rfl, s8, rfl, h8⟩ H
  refine GoL.stepS rfl rfl (r_eqlS (a := s6) (b := s8) rfl rfl ?_)
  refine GoL.stepS rfl rfl (asB rfl ?_)
  refine GoL.nil ?_
  refine Goes.ret (ret1 (v := .bool _) rfl rfl rfl H.nil ⟨rfl, _, rfl, ?_⟩)
  rw [beq_iff_eq]
  constructor
  · rintro rfl; exact h6.inj h8 hu.boxed hv.boxed
  · rintro rfl; exact h6.uniq h8

end Go.Proofs.YtlcpdkckldlceaaGreatDoor
namespace Go.Proofs.YtlcpdkckldlceaaGreatDoor
open Go.Sx Go.Nat32 Go.Dec Go.PolyL Go.Lib Go.Proofs
attribute [local irreducible] pt sl itc itm
set_option maxRecDepth 100000
set_option linter.unusedVariables false
set_option linter.unusedSimpArgs false
set_option maxHeartbeats 1000000

/-- The terms of an argument. -/
def encA (t : Nat × Nat × Nat) : List Value := [.int .u32 (t.1 : Int), .int .u16 (t.2.1 : Int), .int .u16 (t.2.2 : Int)]
def flatA (l : List (Nat × Nat × Nat)) : List Value := l.flatMap encA
theorem flatA_get {l : List (Nat × Nat × Nat)} {j : Nat} {t : Nat × Nat × Nat} (h : l[j]? = some t) : (flatA l)[j * 3]? = some (.int .u32 (t.1 : Int)) ∧ (flatA l)[j * 3 + 1]? = some (.int .u16 (t.2.1 : Int)) ∧ (flatA l)[j * 3 + 2]? = some (.int .u16 (t.2.2 : Int)) := by
  induction l generalizing j with
  | nil => simp at h
  | cons x l ih =>
    cases j with
    | zero => obtain rfl : x = t := by simpa using h
              exact ⟨rfl, rfl, rfl⟩
    | succ j =>
      have := ih (j := j) (by simpa using h)
      have e : ∀ m, (flatA (x :: l))[m + 3]? = (flatA l)[m]? := fun m => by
        show (encA x ++ flatA l)[m + 3]? = _
        rw [List.getElem?_append_right (by simp [encA])]; rfl
      rw [Nat.succ_mul, show j * 3 + 3 + 1 = j * 3 + 1 + 3 by omega, show j * 3 + 3 + 2 = j * 3 + 2 + 3 by omega, e, e, e]
      exact this
/-- The argument: a slice of terms, read-only. -/
structure ArgT (M : RO) (v : Value) (ts : List (Nat × Nat × Nat)) : Prop where
  shape : ∃ a c, v = .slice a ts.length c ∧ RoRow M a (flatA ts)
  big : ts.length ≤ 9223372036854775807
  fits : ∀ t ∈ ts, t.1 < 4294967296 ∧ t.2.1 < 65536 ∧ t.2.2 < 65536
theorem ArgT.mono {M M' : RO} {v : Value} {ts : List (Nat × Nat × Nat)} (h : ArgT M v ts) (hM : M.le M') : ArgT M' v ts := ⟨let ⟨a, c, h1, h2⟩ := h.shape; ⟨a, c, h1, h2.mono hM⟩, h.big, h.fits⟩

/-- What is made: the same polynomial twice. -/
structure Made (M : RO) (v u : Value) (f : Nat → Nat → Nat) (most m : Nat) : Prop where
  p : PolyV M v f
  r : RefPm M u f m
  le : ∀ a b, f a b ≤ m * 4294967296
  ex : ExpLe f most
theorem Made.mono {M M' : RO} {v u : Value} {f : Nat → Nat → Nat} {most m : Nat} (h : Made M v u f most m) (hM : M.le M') : Made M' v u f most m := ⟨h.p.mono hM, h.r.mono hM, h.le, h.ex⟩
theorem Made.lt {M : RO} {v u : Value} {f : Nat → Nat → Nat} {most : Nat} (h : Made M v u f most 8) (a b : Nat) : f a b < 10 ^ 11 := by
  have := h.le a b
  have h2 : (10 : Nat) ^ 11 = 100000000000 := rfl
  rw [h2]; omega
theorem Made.lim {M : RO} {v u : Value} {f : Nat → Nat → Nat} {most : Nat} (h : Made M v u f most 8) (a b : Nat) : lim 2 (f a b) := by
  have := h.le a b
  unfold Go.Nat32.lim; omega

theorem made40_spec {M : RO} {v : Value} {ts : List (Nat × Nat × Nat)} {most : Nat} (hv : ArgT M v ts) (hmost : most ≤ 2048) :
    Sp Tryz.prog 17 [v, .int .i64 (most : Int)] M [] fun r M' L' => L' = [] ∧ ∃ p u f, r = .tuple #[p, u] ∧ Made M' p u f most 8 := by
  obtain ⟨⟨va, vc, rfl, hrow⟩, hbig, hfits⟩ := hv
  refine Sp.enter (n := 72) Tryz.func17 rfl Tryz.ntmps17 rfl ?_
  intro E hE H
  subst hE
  refine Goes.seq (Goes.region ?_)
  refine GoL.stepS rfl rfl (r_alloc tt24 H ?_); clear H; intro b4 w hb4 H
  refine GoL.stepS rfl rfl (asL rfl ?_)
  refine GoL.nil ?_
  refine Goes.seq (Goes.region ?_)
  refine GoL.stepS rfl rfl (r_call cc22 (zero_spec) H ?_); clear H; rintro v13 M13 L13 w hM13 ⟨rfl, rfl, rfl⟩ H
  refine GoL.stepS rfl rfl (r_alloc tt24 H ?_); clear H; intro b6 w hb6 H
  refine GoL.step0 rfl (stA tt24 rfl rfl H (by repeat constructor) rfl rfl (by rfl) ?_); clear H; intro w H
  refine GoL.nil ?_
  refine Goes.seq (Goes.region ?_)
  refine GoL.stepS rfl rfl (asL rfl ?_)
  refine GoL.nil ?_
  refine Goes.seq (Goes.seq (Goes.region ?_))
  refine GoL.stepS rfl rfl (asI rfl ?_)
  refine GoL.nil ?_
  refine Goes.block ?_
  refine Goes.loopS (7 :: 8 :: 9 :: 10 :: 11 :: 12 :: 14 :: 15 :: 16 :: 17 :: 18 :: 19 :: 20 :: 21 :: 22 :: 23 :: 24 :: 25 :: 26 :: 27 :: 28 :: 29 :: 30 :: 31 :: 32 :: 33 :: 34 :: 35 :: 36 :: 37 :: 38 :: 39 :: 40 :: 41 :: 42 :: 43 :: 44 :: 45 :: 46 :: 47 :: 48 :: 49 :: 50 :: 51 :: 52 :: 53 :: 54 :: 55 :: 56 :: 57 :: 58 :: 59 :: 60 :: 61 :: 62 :: 63 :: 64 :: 65 :: 66 :: 67 :: 68 :: 69 :: []) (fun (q : Nat × (Nat → Nat → Nat) × Option Nat × (Option Addr × Nat × Nat) × RO × List HProp) => [(8, .int .i64 (q.1 : Int)), (7, .slice q.2.2.2.1.1 q.2.2.2.1.2.1 q.2.2.2.1.2.2)]) (fun q w => q.1 ≤ 8 ∧ E.M.le q.2.2.2.2.1 ∧ Made q.2.2.2.2.1 (.agg #[.map q.2.2.1]) (.slice q.2.2.2.1.1 q.2.2.2.1.2.1 q.2.2.2.1.2.2) q.2.1 most q.1 ∧ Hp E q.2.2.2.2.1 (pt b6 (.cells #[.map q.2.2.1] 24 (0, 0)) :: pt b4 (.cells #[.map none] 24 (0, 0)) :: q.2.2.2.2.2) w) (fun q => 8 - q.1) (0, (fun _ _ => 0), none, (none, 0, 0), E.M, []) ⟨rfl, rfl, trivial⟩ ⟨Nat.zero_le _, RO.le.refl _, ⟨.zero _, .zero _, (fun a b => Nat.zero_le _), fun a b h => absurd rfl h⟩, H⟩ ?_
  clear H
  rintro ⟨i, f, q6, ⟨sa, sn, sc⟩, M1, L1⟩ f1 w ⟨hi, hM1, hmd, H⟩ again
  dsimp only at hi hM1 hmd H
  by_cases h1 : i < ts.length
  · by_cases h2 : i < 8
    · obtain ⟨⟨tn, ta, tb⟩, ht⟩ : ∃ t, ts[i]? = some t := ⟨ts[i], List.getElem?_eq_getElem h1⟩
      have hft := hfits _ (List.mem_of_getElem? ht)
      obtain ⟨g0, g1, g2⟩ := flatA_get ht
      obtain ⟨qb, qo, qcs, qe, qz, rfl, hMq, hc0⟩ := hrow.at g0
      obtain ⟨_, _, _, _, _, k1, k2, hc1⟩ := hrow.at g1
      cases k1; rw [hMq] at k2; cases k2
      obtain ⟨_, _, _, _, _, k1, k2, hc2⟩ := hrow.at g2
      cases k1; rw [hMq] at k2; cases k2
      dsimp only at hft hc0 hc1 hc2
      have hMq1 := hM1 _ _ hMq
      have hra : ta % (most + 1) ≤ most := by have := Nat.mod_lt ta (show 0 < most + 1 by omega); omega
      have hrb : tb % (most + 1) ≤ most := by have := Nat.mod_lt tb (show 0 < most + 1 by omega); omega
      have hf2 : ∀ a b, f a b + monoF tn (ta % (most + 1)) (tb % (most + 1)) a b ≤ (i + 1) * 4294967296 := by
        intro a b
        have := hmd.le a b
        have h3 : monoF tn (ta % (most + 1)) (tb % (most + 1)) a b ≤ tn := by
          unfold monoF upd; split
          · exact Nat.le_refl _
          · exact Nat.zero_le _
        rw [Nat.add_mul]; omega
      have hlimf : ∀ a b, lim 2 (f a b) := fun a b => by
        have := hf2 a b
        have h5 : (i + 1) * 4294967296 ≤ 8 * 4294967296 := Nat.mul_le_mul_right _ h2
        unfold lim; omega
      have hlimm : ∀ a b, lim 2 (monoF tn (ta % (most + 1)) (tb % (most + 1)) a b) := fun a b => by
        have := hf2 a b
        have h5 : (i + 1) * 4294967296 ≤ 8 * 4294967296 := Nat.mul_le_mul_right _ h2
        unfold lim; omega
      have hlt11 : ∀ a b, f a b + monoF tn (ta % (most + 1)) (tb % (most + 1)) a b < 10 ^ 11 := fun a b => by
        have := hf2 a b
        have h5 : (i + 1) * 4294967296 ≤ 8 * 4294967296 := Nat.mul_le_mul_right _ h2
        have h6 : (10 : Nat) ^ 11 = 100000000000 := rfl
        rw [h6]; omega
      refine Goes.seq (Goes.seq (Goes.region ?_))
      refine GoL.stepS rfl rfl (mvI rfl ?_)
      refine GoL.stepS rfl rfl (mvL rfl ?_)
      refine GoL.stepS rfl rfl (r_lenSlice tt36 rfl ?_)
      refine GoL.stepS rfl rfl (r_lssT rfl rfl (by first | omega | (dsimp only; omega)) ?_)
      refine GoL.stepS rfl rfl (mvB rfl ?_)
      refine GoL.stepYS rfl rfl rfl (mvI rfl ?_)
      refine GoL.stepYS rfl rfl rfl (r_lssT rfl rfl (by first | omega | (dsimp only; omega)) ?_)
      refine GoL.stepS rfl rfl (r_pickT (v := .bool true) rfl rfl ?_)
      refine GoL.nil ?_
      refine Goes.condT rfl (rfl) ?_
      refine Goes.skip (Goes.seq (Goes.block (Goes.seq ?_)))
      refine Goes.regionD0 mixed (by kernel_rfl) 21 H ?_
      refine Ver.read (v := .slice _ _ _) 0 rfl (by kernel_rfl) (fun M' L' w hM H => mvL rfl ⟨rfl, rfl⟩) ?_
      refine Ver.read (v := .int _ _) 1 rfl (by kernel_rfl) (fun M' L' w hM H => mvI rfl ⟨rfl, rfl⟩) ?_
      refine Ver.read (v := .pointer _) 2 rfl (by kernel_rfl) (fun M' L' w hM H => r_indexAddrN tt36 tt70 rfl rfl h1 ⟨rfl, rfl⟩) ?_
      first | refine Ver.read (v := .pointer _) 3 rfl (by kernel_rfl) (fun M' L' w hM H => r_fieldAddr0 fo70_1 rfl ⟨rfl, rfl⟩) ?_ | refine Ver.read (v := .pointer _) 3 rfl (by kernel_rfl) (fun M' L' w hM H => r_fieldAddr fo70_1 rfl ⟨rfl, rfl⟩) ?_
      refine Ver.read (v := .int _ _) 4 rfl (by kernel_rfl) (fun M' L' w hM H => ldI tt45 rfl (H.ro (hM _ _ hMq1)) hc1 ⟨rfl, rfl⟩) ?_
      refine Ver.read (v := .int _ _) 5 rfl (by kernel_rfl) (fun M' L' w hM H => r_cv_i64 tt45 tt3 rfl (by first | omega | (dsimp only; omega)) (by first | omega | (dsimp only; omega)) ⟨rfl, rfl⟩) ?_
      refine Ver.read (v := .int _ _) 6 rfl (by kernel_rfl) (fun M' L' w hM H => mvI rfl ⟨rfl, rfl⟩) ?_
      refine Ver.read (v := .int _ _) 7 rfl (by kernel_rfl) (fun M' L' w hM H => r_addR ((most + 1 : Nat) : Int) rfl rfl (by first | omega | (dsimp only; omega)) (by first | omega | (dsimp only; omega)) (by first | omega | (dsimp only; omega)) ⟨rfl, rfl⟩) ?_
      refine Ver.read (v := .int _ _) 8 rfl (by kernel_rfl) (fun M' L' w hM H => r_remR ((ta % (most + 1) : Nat) : Int) rfl rfl (by first | omega | (dsimp only; omega)) (by first | omega | (dsimp only; omega)) (by simp) ⟨rfl, rfl⟩) ?_
      refine Ver.read (v := .slice _ _ _) 9 rfl (by kernel_rfl) (fun M' L' w hM H => mvL rfl ⟨rfl, rfl⟩) ?_
      refine Ver.read (v := .int _ _) 10 rfl (by kernel_rfl) (fun M' L' w hM H => mvI rfl ⟨rfl, rfl⟩) ?_
      refine Ver.read (v := .pointer _) 11 rfl (by kernel_rfl) (fun M' L' w hM H => r_indexAddrN tt36 tt70 rfl rfl h1 ⟨rfl, rfl⟩) ?_
      first | refine Ver.read (v := .pointer _) 12 rfl (by kernel_rfl) (fun M' L' w hM H => r_fieldAddr0 fo70_2 rfl ⟨rfl, rfl⟩) ?_ | refine Ver.read (v := .pointer _) 12 rfl (by kernel_rfl) (fun M' L' w hM H => r_fieldAddr fo70_2 rfl ⟨rfl, rfl⟩) ?_
      refine Ver.read (v := .int _ _) 13 rfl (by kernel_rfl) (fun M' L' w hM H => ldI tt45 rfl (H.ro (hM _ _ hMq1)) hc2 ⟨rfl, rfl⟩) ?_
      refine Ver.read (v := .int _ _) 14 rfl (by kernel_rfl) (fun M' L' w hM H => r_cv_i64 tt45 tt3 rfl (by first | omega | (dsimp only; omega)) (by first | omega | (dsimp only; omega)) ⟨rfl, rfl⟩) ?_
      refine Ver.read (v := .int _ _) 15 rfl (by kernel_rfl) (fun M' L' w hM H => mvI rfl ⟨rfl, rfl⟩) ?_
      refine Ver.read (v := .int _ _) 16 rfl (by kernel_rfl) (fun M' L' w hM H => r_addR ((most + 1 : Nat) : Int) rfl rfl (by first | omega | (dsimp only; omega)) (by first | omega | (dsimp only; omega)) (by first | omega | (dsimp only; omega)) ⟨rfl, rfl⟩) ?_
      refine Ver.read (v := .int _ _) 17 rfl (by kernel_rfl) (fun M' L' w hM H => r_remR ((tb % (most + 1) : Nat) : Int) rfl rfl (by first | omega | (dsimp only; omega)) (by first | omega | (dsimp only; omega)) (by simp) ⟨rfl, rfl⟩) ?_
      refine Ver.read (v := .int _ _) 18 rfl (by kernel_rfl) (fun M' L' w hM H => asI rfl ⟨rfl, rfl⟩) ?_
      refine Ver.read (v := .int _ _) 19 rfl (by kernel_rfl) (fun M' L' w hM H => asI rfl ⟨rfl, rfl⟩) ?_
      refine Ver.fin0 (by kernel_rfl) ?_
      clear H; intro w H
      refine Goes.seq (Goes.region ?_)
      refine GoL.stepS rfl rfl (mvL rfl ?_)
      refine GoL.stepS rfl rfl (mvI rfl ?_)
      refine GoL.stepS rfl rfl (r_indexAddrN tt36 tt70 rfl rfl h1 ?_)
      first | refine GoL.stepS rfl rfl (r_fieldAddr0 fo70_0 rfl ?_) | refine GoL.stepS rfl rfl (r_fieldAddr fo70_0 rfl ?_)
      refine GoL.stepS rfl rfl (ldI tt68 rfl (H.ro hMq1) hc0 ?_)
      refine GoL.stepS rfl rfl (r_cv_u64 tt68 tt51 rfl (by first | omega | (dsimp only; omega)) (by first | omega | (dsimp only; omega)) ?_)
      refine GoL.stepS rfl rfl (r_call cc25 (fromUint64N (x := tn) (by first | omega | (dsimp only; omega))) H ?_); clear H; rintro v49 M49 L49 w hM49 ⟨rfl, h49⟩ H
      refine GoL.stepS rfl rfl (mvI rfl ?_)
      refine GoL.stepS rfl rfl (mvI rfl ?_)
      refine GoL.stepS rfl rfl (r_call cc35 (monomial_ok (k := 1) (a := ta % (most + 1)) (b := tb % (most + 1)) h49 (by first | omega | (dsimp only; omega)) (by first | omega | (dsimp only; omega)) (show lim 1 tn by unfold lim; omega) (by first | omega | (dsimp only; omega))) H ?_); clear H; rintro v52 M52 L52 w hM52 ⟨rfl, q52, rfl, h52⟩ H
      refine GoL.stepS rfl rfl (mvT rfl ?_)
      refine GoL.stepS rfl rfl (r_extract rfl rfl ?_)
      refine GoL.stepS rfl rfl (r_extract rfl rfl ?_)
      refine GoL.stepS rfl rfl (r_alloc tt24 H ?_); clear H; intro b11 w hb11 H
      refine GoL.step0 rfl (stA tt24 rfl rfl H (by repeat constructor) rfl rfl (by rfl) ?_); clear H; intro w H
      refine GoL.stepS rfl rfl (asI rfl ?_)
      refine GoL.nil ?_
      refine Goes.seq (Goes.region ?_)
      refine GoL.stepS rfl rfl (ldA tt24 rfl (H.own (by repeat constructor)) rfl (by rfl) ?_)
      refine GoL.stepS rfl rfl (ldA tt24 rfl (H.own (by repeat constructor)) rfl (by rfl) ?_)
      refine GoL.stepS rfl rfl (r_call cc18 (padd_spec (((hmd.p.mono hM49).mono hM52)) h52 hlimf hlimm (by first | omega | (dsimp only; omega))) H ?_); clear H; rintro v57 M57 L57 w hM57 ⟨rfl, h57⟩ H
      obtain ⟨q57, rfl⟩ := h57.shape
      have hMq2 := hM57 _ _ (hM52 _ _ (hM49 _ _ hMq1))
      refine GoL.step0 rfl (stA tt24 rfl rfl H (by repeat constructor) rfl rfl (by rfl) ?_); clear H; intro w H
      refine GoL.nil ?_
      refine Goes.region ?_
      refine GoL.stepS rfl rfl (mvL rfl ?_)
      refine GoL.stepS rfl rfl (mvL rfl ?_)
      refine GoL.stepS rfl rfl (mvI rfl ?_)
      refine GoL.stepS rfl rfl (r_indexAddrN tt36 tt70 rfl rfl h1 ?_)
      first | refine GoL.stepS rfl rfl (r_fieldAddr0 fo70_0 rfl ?_) | refine GoL.stepS rfl rfl (r_fieldAddr fo70_0 rfl ?_)
      refine GoL.stepS rfl rfl (ldI tt68 rfl (H.ro hMq2) hc0 ?_)
      refine GoL.stepS rfl rfl (r_cv_u64 tt68 tt51 rfl (by first | omega | (dsimp only; omega)) (by first | omega | (dsimp only; omega)) ?_)
      refine GoL.stepS rfl rfl (r_call cc30 (rof_spec (x := tn) (by first | omega | (dsimp only; omega))) H ?_); clear H; rintro v65 M65 L65 w hM65 ⟨rfl, h65⟩ H
      refine GoL.stepS rfl rfl (mvI rfl ?_)
      refine GoL.stepS rfl rfl (mvI rfl ?_)
      refine GoL.stepS rfl rfl (r_call cc36 (rof40_spec (a := ta % (most + 1)) (b := tb % (most + 1)) h65 (by first | omega | (dsimp only; omega)) (by first | omega | (dsimp only; omega))) H ?_); clear H; rintro v68 M68 L68 w hM68 ⟨rfl, h68⟩ H
      refine GoL.stepS rfl rfl (r_call cc19 (radd40_spec (((((hmd.r.mono hM49).mono hM52).mono hM57).mono hM65).mono hM68) h68 (k := 11) (by first | omega | (dsimp only; omega)) hlt11 (by first | omega | (dsimp only; omega))) H ?_); clear H; rintro v69 M69 L69 w hM69 ⟨rfl, h69⟩ H
      obtain ⟨a69, n69, c69, rfl⟩ := h69.shape
      refine GoL.stepS rfl rfl (asL rfl ?_)
      refine GoL.nil ?_
      refine Goes.inBlock (Goes.region ?_)
      refine GoL.stepS rfl rfl (mvI rfl ?_)
      first | refine GoL.stepS rfl rfl (r_addI rfl rfl (by first | omega | (dsimp only; omega)) (by first | omega | (dsimp only; omega)) ?_) | refine GoL.stepS rfl rfl (r_add rfl rfl ?_)
      refine GoL.stepS rfl rfl (asI rfl ?_)
      refine GoL.nil ?_
      refine again (i + 1, _, q57, (a69, n69, c69), M69, []) _ _ ⟨rfl, rfl, trivial⟩ (.of_strip (by kernel_rfl)) ⟨by first | omega | (dsimp only; omega), RO.le.trans hM1 (RO.le.trans hM49 (RO.le.trans hM52 (RO.le.trans hM57 (RO.le.trans hM65 (RO.le.trans hM68 hM69))))), ⟨((h57.mono hM65).mono hM68).mono hM69, h69, hf2, ?_⟩, H.sel (.cons (by repeat constructor) (.cons (by repeat constructor) .nil))⟩ (by first | omega | (dsimp only; omega))
      intro a b hab
      dsimp only at hab
      by_cases h0 : f a b = 0
      · have : monoF tn (ta % (most + 1)) (tb % (most + 1)) a b ≠ 0 := by omega
        unfold monoF upd at this
        split at this
        · rename_i h; obtain ⟨rfl, rfl⟩ := h; exact ⟨hra, hrb⟩
        · exact absurd rfl this
      · exact hmd.ex a b h0
    · refine Goes.seq (Goes.seq (Goes.region ?_))
      refine GoL.stepS rfl rfl (mvI rfl ?_)
      refine GoL.stepS rfl rfl (mvL rfl ?_)
      refine GoL.stepS rfl rfl (r_lenSlice tt36 rfl ?_)
      refine GoL.stepS rfl rfl (r_lssT rfl rfl (by first | omega | (dsimp only; omega)) ?_)
      refine GoL.stepS rfl rfl (mvB rfl ?_)
      refine GoL.stepYS rfl rfl rfl (mvI rfl ?_)
      refine GoL.stepYS rfl rfl rfl (r_lssF rfl rfl (by first | omega | (dsimp only; omega)) ?_)
      refine GoL.stepS rfl rfl (r_pickT (v := .bool false) rfl rfl ?_)
      refine GoL.nil ?_
      refine Goes.condF rfl (rfl) ?_
      refine Goes.exit rfl (Goes.seq (Goes.region ?_))
      refine GoL.stepS rfl rfl (ldA tt24 rfl (H.own (by repeat constructor)) rfl (by rfl) ?_)
      refine GoL.stepS rfl rfl (mvL rfl ?_)
      refine GoL.step0 rfl (stA tt24 rfl rfl H (by repeat constructor) rfl rfl (by rfl) ?_); clear H; intro w H
      refine GoL.stepS rfl rfl (asL rfl ?_)
      refine GoL.nil ?_
      refine Goes.ret (ret2 (v := .agg #[.map _]) (v' := .slice _ _ _) rfl rfl (res_agg rfl tt24 (H.own (by repeat constructor)) rfl (by rfl)) rfl H.nil ⟨rfl, _, _, f, rfl, ?_⟩)
      obtain ⟨a0, c0, l0, e0, e1, e2, e3, e4⟩ := hmd.r
      exact ⟨hmd.p, ⟨a0, c0, l0, e0, e1, e2, e3, by omega⟩, (fun a b => Nat.le_trans (hmd.le a b) (Nat.mul_le_mul_right _ hi)), hmd.ex⟩
  · refine Goes.seq (Goes.seq (Goes.region ?_))
    refine GoL.stepS rfl rfl (mvI rfl ?_)
    refine GoL.stepS rfl rfl (mvL rfl ?_)
    refine GoL.stepS rfl rfl (r_lenSlice tt36 rfl ?_)
    refine GoL.stepS rfl rfl (r_lssF rfl rfl (by first | omega | (dsimp only; omega)) ?_)
    refine GoL.stepS rfl rfl (mvB rfl ?_)
    refine GoL.stepNS rfl rfl rfl ?_
    refine GoL.stepNS rfl rfl rfl ?_
    refine GoL.stepS rfl rfl (r_pickF (v := .bool false) rfl rfl ?_)
    refine GoL.nil ?_
    refine Goes.condF rfl (rfl) ?_
    refine Goes.exit rfl (Goes.seq (Goes.region ?_))
    refine GoL.stepS rfl rfl (ldA tt24 rfl (H.own (by repeat constructor)) rfl (by rfl) ?_)
    refine GoL.stepS rfl rfl (mvL rfl ?_)
    refine GoL.step0 rfl (stA tt24 rfl rfl H (by repeat constructor) rfl rfl (by rfl) ?_); clear H; intro w H
    refine GoL.stepS rfl rfl (asL rfl ?_)
    refine GoL.nil ?_
    refine Goes.ret (ret2 (v := .agg #[.map _]) (v' := .slice _ _ _) rfl rfl (res_agg rfl tt24 (H.own (by repeat constructor)) rfl (by rfl)) rfl H.nil ⟨rfl, _, _, f, rfl, ?_⟩)
    obtain ⟨a0, c0, l0, e0, e1, e2, e3, e4⟩ := hmd.r
    exact ⟨hmd.p, ⟨a0, c0, l0, e0, e1, e2, e3, by omega⟩, (fun a b => Nat.le_trans (hmd.le a b) (Nat.mul_le_mul_right _ hi)), hmd.ex⟩

end Go.Proofs.YtlcpdkckldlceaaGreatDoor
namespace Go.Proofs.YtlcpdkckldlceaaGreatDoor
open Go.Sx Go.Nat32 Go.Dec Go.PolyL Go.Lib Go.Proofs
attribute [local irreducible] pt sl itc itm
set_option maxRecDepth 100000
set_option linter.unusedVariables false
set_option linter.unusedSimpArgs false
set_option maxHeartbeats 1000000

theorem monoF_at (x a b c d : Nat) : monoF x a b c d = if (c, d) = (a, b) then x else 0 := by
  unfold monoF upd zeroF
  by_cases h : c = a ∧ d = b
  · obtain ⟨rfl, rfl⟩ := h; simp
  · rw [if_neg h, if_neg]
    intro e; injection e with e1 e2; exact h ⟨e1, e2⟩
theorem conv_mono {x y a b c d : Nat} (h1 : a + c ≤ 2048) (h2 : b + d ≤ 2048) : conv (monoF x a b) (monoF y c d) = monoF (x * y) (a + c) (b + d) := by
  funext u v
  rw [monoF_at]
  unfold conv
  have e : ∀ s ∈ box, (sumL box fun t => if s.1 + t.1 = u ∧ s.2 + t.2 = v then monoF x a b s.1 s.2 * monoF y c d t.1 t.2 else 0) = if s = (a, b) then (if a + c = u ∧ b + d = v then x * y else 0) else 0 := by
    intro s _
    have e1 : (sumL box fun t => if s.1 + t.1 = u ∧ s.2 + t.2 = v then monoF x a b s.1 s.2 * monoF y c d t.1 t.2 else 0) = sumL box fun t => if t = (c, d) then (if s = (a, b) then (if a + c = u ∧ b + d = v then x * y else 0) else 0) else 0 := by
      refine sumL_congr fun t _ => ?_
      rw [monoF_at, monoF_at]
      by_cases ht : t = (c, d)
      · subst ht
        by_cases hs : s = (a, b)
        · subst hs; simp
        · rw [if_neg (show ¬ (s.1, s.2) = (a, b) from hs), Nat.zero_mul, if_neg hs]; simp
      · rw [if_neg (show ¬ (t.1, t.2) = (c, d) from ht), Nat.mul_zero, if_neg ht]; simp
    rw [e1, sumL_ite nodup_box, if_pos (mem_box.2 ⟨by show c ≤ 2048; omega, by show d ≤ 2048; omega⟩)]
  rw [sumL_congr e, sumL_ite nodup_box, if_pos (mem_box.2 ⟨by show a ≤ 2048; omega, by show b ≤ 2048; omega⟩)]
  by_cases h : a + c = u ∧ b + d = v
  · obtain ⟨rfl, rfl⟩ := h
    rw [if_pos ⟨h1, h2⟩, if_pos ⟨rfl, rfl⟩, if_pos rfl]
  · rw [if_neg h, if_neg (show ¬ (u, v) = (a + c, b + d) from fun e => h (by injection e with e1 e2; exact ⟨e1.symm, e2.symm⟩))]; simp
theorem evalF_add (f g : Nat → Nat → Nat) (x y : Nat) : evalF (fun a b => f a b + g a b) x y = evalF f x y + evalF g x y := by
  unfold evalF
  rw [← sumL_add]
  refine sumL_congr fun k _ => ?_
  rw [Nat.add_mul, Nat.add_mul]
theorem evalF_mono {n a b x y : Nat} (ha : a ≤ 2048) (hb : b ≤ 2048) : evalF (monoF n a b) x y = n * x ^ a * y ^ b := by
  unfold evalF
  have : (sumL box fun k => monoF n a b k.1 k.2 * x ^ k.1 * y ^ k.2) = sumL box fun k => if k = (a, b) then n * x ^ a * y ^ b else 0 := by
    refine sumL_congr fun k _ => ?_
    rw [monoF_at]
    by_cases h : k = (a, b)
    · subst h; simp
    · rw [if_neg (show ¬ (k.1, k.2) = (a, b) from h), if_neg h]; simp
  rw [this, sumL_ite nodup_box, if_pos (mem_box.2 ⟨ha, hb⟩)]

/-- The example's polynomial. -/
def exF : Nat → Nat → Nat := conv (fun a b => monoF 1 0 0 a b + monoF 1 1 0 a b) (fun a b => monoF 1 0 0 a b + monoF 1 0 1 a b)
theorem exF_eq : exF = fun a b => (monoF 1 0 0 a b + monoF 1 1 0 a b) + (monoF 1 0 1 a b + monoF 1 1 1 a b) := by
  unfold exF
  rw [conv_add]
  have h1 : ∀ c d, c ≤ 1 → d ≤ 1 → conv (fun a b => monoF 1 0 0 a b + monoF 1 1 0 a b) (monoF 1 c d) = fun a b => monoF 1 c d a b + monoF 1 (1 + c) d a b := by
    intro c d hc hd
    rw [conv_comm, conv_add, conv_mono (by omega) (by omega), conv_mono (by omega) (by omega)]
    funext a b
    simp [Nat.add_comm]
  rw [h1 0 0 (by decide) (by decide), h1 0 1 (by decide) (by decide)]
theorem exF_at (a b : Nat) : exF a b = if a ≤ 1 ∧ b ≤ 1 then 1 else 0 := by
  rw [exF_eq]
  simp only [monoF_at, Prod.mk.injEq]
  rcases (by omega : a = 0 ∨ a = 1 ∨ 2 ≤ a) with rfl | rfl | ha
  · rcases (by omega : b = 0 ∨ b = 1 ∨ 2 ≤ b) with rfl | rfl | hb
    · rfl
    · rfl
    · rw [if_neg (by omega), if_neg (by omega), if_neg (by omega), if_neg (by omega), if_neg (by omega)]
  · rcases (by omega : b = 0 ∨ b = 1 ∨ 2 ≤ b) with rfl | rfl | hb
    · rfl
    · rfl
    · rw [if_neg (by omega), if_neg (by omega), if_neg (by omega), if_neg (by omega), if_neg (by omega)]
  · rw [if_neg (by omega), if_neg (by omega), if_neg (by omega), if_neg (by omega), if_neg (by omega)]
def exKs : List (Nat × Nat) := [(0, 0), (0, 1), (1, 0), (1, 1)]
def exL : List Tm := [(1, 0, 0), (1, 0, 1), (1, 1, 0), (1, 1, 1)]
def exS : List UInt8 := [49, 32, 43, 32, 49, 32, 121, 94, 49, 32, 43, 32, 49, 32, 120, 94, 49, 32, 43, 32, 49, 32, 120, 94, 49, 32, 121, 94, 49]
theorem exKs_mem (k : Nat × Nat) : k ∈ exKs ↔ exF k.1 k.2 ≠ 0 := by
  obtain ⟨a, b⟩ := k
  rw [exF_at]
  unfold exKs
  simp only [List.mem_cons, List.not_mem_nil, or_false, Prod.mk.injEq]
  by_cases h : a ≤ 1 ∧ b ≤ 1
  · rw [if_pos h]
    constructor
    · intro _; decide
    · intro _; omega
  · rw [if_neg h]
    constructor
    · intro h'; omega
    · intro h'; exact absurd rfl h'
theorem exL_text : textT exL = exS := by
  have h1 : decDigits 1 = [49] := by rw [decDigits_small (by decide)]; rfl
  unfold textT exL exS
  simp [tmL, pw, h1, join_cons, joinTail, plusL]
theorem exKs_asc : exKs.Pairwise kl := by
  unfold exKs
  simp only [List.pairwise_cons, List.mem_cons, List.not_mem_nil, or_false, List.Pairwise.nil, and_true]
  refine ⟨?_, ?_, ?_, ?_⟩ <;> (intro q hq; unfold kl)
  · rcases hq with rfl | rfl | rfl <;> simp
  · rcases hq with rfl | rfl <;> simp
  · subst hq; simp
  · exact hq.elim
theorem exL_terms : Terms exL := by
  refine ⟨by simp [exL], fun t ht => ?_, ?_⟩
  · simp only [exL, List.mem_cons, List.not_mem_nil, or_false] at ht
    rcases ht with rfl | rfl | rfl | rfl <;> exact ⟨by decide, by decide, by decide⟩
  · have : exL.map (·.2) = exKs := rfl
    have h := exKs_asc
    rw [← this] at h
    exact List.pairwise_map.1 h
theorem exF_boxed : Boxed exF := fun a b h => by
  rw [exF_at] at h
  split at h
  · omega
  · exact absurd rfl h
theorem exF_text : TextOf exF exS := by
  refine ⟨exKs, exKs_asc, exKs_mem, ?_⟩
  have h : exKs.map (fun k => (exF k.1 k.2, k.1, k.2)) = exL := by
    simp only [exKs, exL, List.map_cons, List.map_nil, exF_at]; rfl
  rw [(textK_terms exF_boxed exKs_asc exKs_mem (by simp [exKs])).2, h, exL_text]
theorem exF_fOf : fOf exL = exF := by
  funext a b
  rw [exF_eq]
  simp only [fOf, exL, sumL_cons, sumL_nil, monoF_at, Prod.mk.injEq]
  have e : ∀ c d : Nat, (if c = a ∧ d = b then (1 : Nat) else 0) = if a = c ∧ b = d then 1 else 0 := fun c d => by
    by_cases h : c = a ∧ d = b
    · rw [if_pos h, if_pos ⟨h.1.symm, h.2.symm⟩]
    · rw [if_neg h, if_neg (fun h' => h ⟨h'.1.symm, h'.2.symm⟩)]
  rw [e, e, e, e]; omega
theorem exF_num : (sumL box fun k => if exF k.1 k.2 = 0 then 0 else 1) = 4 := by
  have h1 : (sumL box fun k => if exF k.1 k.2 = 0 then 0 else 1) = sumL box fun k => ((if k = (0, 0) then 1 else 0) + (if k = (1, 0) then 1 else 0)) + ((if k = (0, 1) then 1 else 0) + (if k = (1, 1) then 1 else 0)) := by
    refine sumL_congr fun k _ => ?_
    have hm : ∀ c d, monoF 1 c d k.1 k.2 = if k = (c, d) then 1 else 0 := fun c d => monoF_at 1 c d k.1 k.2
    have he : exF k.1 k.2 = ((if k = (0, 0) then 1 else 0) + (if k = (1, 0) then 1 else 0)) + ((if k = (0, 1) then 1 else 0) + (if k = (1, 1) then 1 else 0)) := by
      rw [exF_eq]; simp only [hm]
    rw [← he, exF_at]
    split <;> rfl
  have hb : ∀ c d, c ≤ 1 → d ≤ 1 → ((c, d) : Nat × Nat) ∈ box := fun c d hc hd => mem_box.2 ⟨by show c ≤ 2048; omega, by show d ≤ 2048; omega⟩
  rw [h1, sumL_add, sumL_add, sumL_add, sumL_ite nodup_box, sumL_ite nodup_box, sumL_ite nodup_box, sumL_ite nodup_box, if_pos (hb 0 0 (by decide) (by decide)), if_pos (hb 1 0 (by decide) (by decide)), if_pos (hb 0 1 (by decide) (by decide)), if_pos (hb 1 1 (by decide) (by decide))]
theorem exF_eval : evalF exF 2 3 = 12 := by
  rw [exF_eq]
  rw [evalF_add (fun a b => monoF 1 0 0 a b + monoF 1 1 0 a b) (fun a b => monoF 1 0 1 a b + monoF 1 1 1 a b), evalF_add, evalF_add, evalF_mono (by decide) (by decide), evalF_mono (by decide) (by decide), evalF_mono (by decide) (by decide), evalF_mono (by decide) (by decide)]


theorem r_eqlST {P : Program} {ρ : Env} {w : World} {K : Value → World → Prop} {dst : Option Tmp} {ty : TypeId} {pos : String} {aft : Array Edge} {g : Option (Nat × Bool)} {t yt : TypeId} {x y : Operand} {a b : List UInt8} (hx : ρ.ev x = .string ⟨a.toArray⟩) (hy : ρ.ev y = .string ⟨b.toArray⟩) (he : a = b) (h : K (.bool true) w) :
    OpRuns P ρ ⟨dst, .binOp .eql t x y yt, ty, pos, aft, g⟩ w K :=
  r_eqlS hx hy (by have : (a == b) = true := by subst he; simp
                   rw [this]; exact h)

theorem exF_deg1 {x : Int} (h : IsDeg exF (fun a _ => a) x) : x = 1 := by
  have h1 := h.ge 1 0 (by rw [exF_at]; decide)
  have h2 := h.low
  rcases h.at_ with e | ⟨a, b, h3, e⟩
  · omega
  · rw [exF_at] at h3
    split at h3
    · omega
    · exact absurd rfl h3
theorem exF_deg2 {x : Int} (h : IsDeg exF (fun _ b => b) x) : x = 1 := by
  have h1 := h.ge 0 1 (by rw [exF_at]; decide)
  have h2 := h.low
  rcases h.at_ with e | ⟨a, b, h3, e⟩
  · omega
  · rw [exF_at] at h3
    split at h3
    · omega
    · exact absurd rfl h3
theorem exF_parse {c : Int} {ok : (Nat → Nat → Nat) → Prop} (h : ParseR exS c ok) : c = 0 ∧ ok exF := by
  rcases h with ⟨h, _⟩ | ⟨L, hT, hs, h⟩ | ⟨_, h, _⟩
  · exact absurd h (by decide)
  · rw [← exL_text] at hs
    have hL := textT_inj exL_terms.ne hT.ne exL_terms.ok hT.ok hs
    subst hL
    rcases h with ⟨_, h1, h2⟩ | ⟨h1, _⟩
    · exact ⟨h1, exF_fOf ▸ h2⟩
    · refine absurd (fun t ht => ?_) h1
      simp only [exL, List.mem_cons, List.not_mem_nil, or_false] at ht
      rcases ht with rfl | rfl | rfl | rfl <;> decide
  · exact absurd ⟨exL, exL_terms, exL_text.symm⟩ h
theorem monoF_lim {a b : Nat} (c d : Nat) : lim 1 (monoF 1 a b c d) := by
  rw [monoF_at]; unfold lim; split <;> decide
theorem exF_lim (a b : Nat) : lim 1 (exF a b) := by
  rw [exF_at]; unfold lim; split <;> decide

theorem known_spec {M : RO} (hT : TabM M) (hm : MaxM M) : Sp0 Tryz.prog 14 [] M [] fun r _ L' => L' = [] ∧ r = .bool true := by
  refine Sp0.enter (n := 57) Tryz.func14 rfl Tryz.ntmps14 rfl ?_
  intro E hdr hE H
  subst hE
  have hl2 : ∀ {a b c d : Nat} (u v : Nat), lim 2 (monoF 1 a b u v + monoF 1 c d u v) := fun u v => ((monoF_lim u v).add (monoF_lim u v))
  refine Goes.seq (Goes.region ?_)
  refine GoL.stepS rfl rfl (asB rfl ?_)
  refine GoL.nil ?_
  refine Goes.seq (Goes.region ?_)
  refine GoL.stepS rfl rfl (r_call cc23 (one_spec) H ?_); clear H; rintro v6 M6 L6 w hM6 ⟨rfl, h6⟩ H
  refine GoL.stepS rfl rfl (r_call cc63 (x_spec) H ?_); clear H; rintro v7 M7 L7 w hM7 ⟨rfl, h7⟩ H
  refine GoL.stepS rfl rfl (r_call cc18 (padd_spec (h6.mono hM7) h7 (fun a b => monoF_lim a b) (fun a b => monoF_lim a b) (by first | omega | (dsimp only; omega))) H ?_); clear H; rintro v8 M8 L8 w hM8 ⟨rfl, h8⟩ H
  refine GoL.stepS rfl rfl (r_call cc23 (one_spec) H ?_); clear H; rintro v9 M9 L9 w hM9 ⟨rfl, h9⟩ H
  refine GoL.stepS rfl rfl (r_call cc64 (y_spec) H ?_); clear H; rintro v10 M10 L10 w hM10 ⟨rfl, h10⟩ H
  refine GoL.stepS rfl rfl (r_call cc18 (padd_spec (h9.mono hM10) h10 (fun a b => monoF_lim a b) (fun a b => monoF_lim a b) (by first | omega | (dsimp only; omega))) H ?_); clear H; rintro v11 M11 L11 w hM11 ⟨rfl, h11⟩ H
  refine GoL.stepS rfl rfl (r_call cc20 (pmul_spec (((h8.mono hM9).mono hM10).mono hM11) h11 (fun a b => hl2 a b) (fun a b => hl2 a b) (by first | omega | (dsimp only; omega))) H ?_); clear H; rintro v12 M12 L12 w hM12 ⟨rfl, h12⟩ H
  refine GoL.stepS rfl rfl (r_alloc tt24 H ?_); clear H; intro b1 w hb1 H
  have h12 : PolyV M12 v12 exF := h12
  obtain ⟨q12, rfl⟩ := h12.shape
  have hTM : TabM M12 := ((((((hT.mono hM6).mono hM7).mono hM8).mono hM9).mono hM10).mono hM11).mono hM12
  have hmM : MaxM M12 := ((((((hm.mono hM6).mono hM7).mono hM8).mono hM9).mono hM10).mono hM11).mono hM12
  refine GoL.step0 rfl (stA tt24 rfl rfl H (by repeat constructor) rfl rfl (by rfl) ?_); clear H; intro w H
  refine GoL.nil ?_
  refine Goes.seq (Goes.region ?_)
  refine GoL.stepS rfl rfl (ldA tt24 rfl (H.own (by repeat constructor)) rfl (by rfl) ?_)
  refine GoL.stepS rfl rfl (r_call cc37 (degree_spec h12) H ?_); clear H; rintro v15 M15 L15 w hM15 ⟨rfl, rfl, dx, dy, rfl, hdx, hdy⟩ H
  obtain rfl := exF_deg1 hdx
  obtain rfl := exF_deg2 hdy
  refine GoL.stepS rfl rfl (mvT rfl ?_)
  refine GoL.stepS rfl rfl (r_extract rfl rfl ?_)
  refine GoL.stepS rfl rfl (r_extract rfl rfl ?_)
  refine GoL.stepS rfl rfl (asI rfl ?_)
  refine GoL.stepS rfl rfl (asI rfl ?_)
  refine GoL.nil ?_
  refine Goes.seq (Goes.region ?_)
  refine GoL.stepS rfl rfl (ldA tt24 rfl (H.own (by repeat constructor)) rfl (by rfl) ?_)
  refine GoL.stepS rfl rfl (r_call0 hdr cc16 (textOf_spec hTM h12 exF_lim (by first | omega | (dsimp only; omega))) H ?_); clear H; rintro v20 M20 L20 w hM20 ⟨rfl, s20, rfl, h20⟩ H
  obtain rfl := h20.uniq exF_text
  refine GoL.stepS rfl rfl (r_call0 hdr cc12 (pparse_spec (hmM.mono hM20) (s := exS) (by decide)) H ?_); clear H; rintro v21 M21 L21 w hM21 ⟨rfl, v21, c21, rfl, h21⟩ H
  obtain ⟨hc21, hp21⟩ := exF_parse h21
  clear h21
  subst hc21
  obtain ⟨q21, rfl⟩ := hp21.shape
  refine GoL.stepS rfl rfl (mvT rfl ?_)
  refine GoL.stepS rfl rfl (r_extract rfl rfl ?_)
  refine GoL.stepS rfl rfl (r_extract rfl rfl ?_)
  refine GoL.stepS rfl rfl (r_alloc tt24 H ?_); clear H; intro b4 w hb4 H
  refine GoL.step0 rfl (stA tt24 rfl rfl H (by repeat constructor) rfl rfl (by rfl) ?_); clear H; intro w H
  refine GoL.stepS rfl rfl (asI rfl ?_)
  refine GoL.nil ?_
  refine Goes.seq ?_
  obtain ⟨M4, hb4, hle4, H⟩ := H.freezeX (i := 0) .head
  obtain ⟨M5, hb1, hle5, H⟩ := H.freezeX (i := 0) .head
  have hb4 := hle5 _ _ hb4
  have g12 : PolyV M5 (.agg #[.map q12]) exF := (((h12.mono hM20).mono hM21).mono hle4).mono hle5
  have g21 : PolyV M5 (.agg #[.map q21]) exF := (hp21.mono hle4).mono hle5
  have gT : TabM M5 := (((hTM.mono hM20).mono hM21).mono hle4).mono hle5
  refine Goes.regionDX mixed (by kernel_rfl) 35 H ?_
  refine Ver.read (v := .agg _) 0 rfl (by kernel_rfl) (fun M' L' w hM H => ldA tt24 rfl (H.ro (hM _ _ hb1)) rfl (by rfl) ⟨rfl, rfl⟩) ?_
  refine Ver.nextX 1 (by kernel_rfl) rfl (by kernel_rfl) ?_
  clear H; intro w H
  refine r_call0 hdr cc16 (textOf_spec gT g12 exF_lim (by first | omega | (dsimp only; omega))) H ?_
  clear H; rintro v25 M25 L25 w hM25 ⟨rfl, s25, rfl, h25⟩ H
  refine ⟨_, _, hM25, H, ?_⟩
  refine Ver.read (v := (.bool true)) 2 rfl (by kernel_rfl) (fun M' L' w hM H => r_eqlST (a := s25) (b := exS) rfl rfl (h25.uniq exF_text) ⟨rfl, rfl⟩) ?_
  refine Ver.read (v := .bool _) 3 rfl (by kernel_rfl) (fun M' L' w hM H => mvB rfl ⟨rfl, rfl⟩) ?_
  refine Ver.readY (v := .agg _) 4 rfl (by kernel_rfl) rfl (fun M' L' w hM H => ldA tt24 rfl (H.ro (hM _ _ (hM25 _ _ hb1))) rfl (by rfl) ⟨rfl, rfl⟩) ?_
  refine Ver.nextXY 5 (by kernel_rfl) rfl (by kernel_rfl) rfl ?_
  clear H; intro w H
  refine r_call cc41 (numTerms_spec (g12.mono hM25)) H ?_
  clear H; rintro v29 M29 L29 w hM29 ⟨rfl, rfl, rfl⟩ H
  refine ⟨_, _, hM29, H, ?_⟩
  refine Ver.readY (v := .bool _) 6 rfl (by kernel_rfl) rfl (fun M' L' w hM H => r_eqlT rfl rfl (by rw [exF_num]; rfl) ⟨rfl, rfl⟩) ?_
  refine Ver.read (v := .bool _) 7 rfl (by kernel_rfl) (fun M' L' w hM H => r_pickB rfl rfl rfl ⟨rfl, rfl⟩) ?_
  refine Ver.read (v := .bool _) 8 rfl (by kernel_rfl) (fun M' L' w hM H => mvB rfl ⟨rfl, rfl⟩) ?_
  refine Ver.readY (v := .int _ _) 9 rfl (by kernel_rfl) rfl (fun M' L' w hM H => mvI rfl ⟨rfl, rfl⟩) ?_
  refine Ver.readY (v := .bool _) 10 rfl (by kernel_rfl) rfl (fun M' L' w hM H => r_eqlT rfl rfl rfl ⟨rfl, rfl⟩) ?_
  refine Ver.read (v := .bool _) 11 rfl (by kernel_rfl) (fun M' L' w hM H => r_pickB rfl rfl rfl ⟨rfl, rfl⟩) ?_
  refine Ver.read (v := .bool _) 12 rfl (by kernel_rfl) (fun M' L' w hM H => mvB rfl ⟨rfl, rfl⟩) ?_
  refine Ver.readY (v := .int _ _) 13 rfl (by kernel_rfl) rfl (fun M' L' w hM H => mvI rfl ⟨rfl, rfl⟩) ?_
  refine Ver.readY (v := .bool _) 14 rfl (by kernel_rfl) rfl (fun M' L' w hM H => r_eqlT rfl rfl rfl ⟨rfl, rfl⟩) ?_
  refine Ver.read (v := .bool _) 15 rfl (by kernel_rfl) (fun M' L' w hM H => r_pickB rfl rfl rfl ⟨rfl, rfl⟩) ?_
  refine Ver.read (v := .bool _) 16 rfl (by kernel_rfl) (fun M' L' w hM H => mvB rfl ⟨rfl, rfl⟩) ?_
  refine Ver.readY (v := .int _ _) 17 rfl (by kernel_rfl) rfl (fun M' L' w hM H => mvI rfl ⟨rfl, rfl⟩) ?_
  refine Ver.readY (v := .bool _) 18 rfl (by kernel_rfl) rfl (fun M' L' w hM H => r_eqlT rfl rfl rfl ⟨rfl, rfl⟩) ?_
  refine Ver.read (v := .bool _) 19 rfl (by kernel_rfl) (fun M' L' w hM H => r_pickB rfl rfl rfl ⟨rfl, rfl⟩) ?_
  refine Ver.read (v := .bool _) 20 rfl (by kernel_rfl) (fun M' L' w hM H => mvB rfl ⟨rfl, rfl⟩) ?_
  refine Ver.readY (v := .agg _) 21 rfl (by kernel_rfl) rfl (fun M' L' w hM H => ldA tt24 rfl (H.ro (hM _ _ (hM25 _ _ hb4))) rfl (by rfl) ⟨rfl, rfl⟩) ?_
  refine Ver.readY (v := .agg _) 22 rfl (by kernel_rfl) rfl (fun M' L' w hM H => ldA tt24 rfl (H.ro (hM _ _ (hM25 _ _ hb1))) rfl (by rfl) ⟨rfl, rfl⟩) ?_
  refine Ver.nextXY 23 (by kernel_rfl) rfl (by kernel_rfl) rfl ?_
  clear H; intro w H
  refine r_call cc24 (pequalT (g21.mono hM25) (g12.mono hM25) rfl) H ?_
  clear H; rintro v47 M47 L47 w hM47 ⟨rfl, rfl, rfl⟩ H
  refine ⟨_, _, hM47, H, ?_⟩
  refine Ver.read (v := .bool _) 24 rfl (by kernel_rfl) (fun M' L' w hM H => r_pickB rfl rfl rfl ⟨rfl, rfl⟩) ?_
  refine Ver.read (v := .bool _) 25 rfl (by kernel_rfl) (fun M' L' w hM H => mvB rfl ⟨rfl, rfl⟩) ?_
  refine Ver.readY (v := .agg _) 26 rfl (by kernel_rfl) rfl (fun M' L' w hM H => ldA tt24 rfl (H.ro (hM _ _ (hM25 _ _ hb1))) rfl (by rfl) ⟨rfl, rfl⟩) ?_
  refine Ver.nextXY 27 (by kernel_rfl) rfl (by kernel_rfl) rfl ?_
  clear H; intro w H
  refine r_call cc25 (fromUint64N (x := 2) (by first | omega | (dsimp only; omega))) H ?_
  clear H; rintro v51 M51 L51 w hM51 ⟨rfl, h51⟩ H
  refine ⟨_, _, hM51, H, ?_⟩
  refine Ver.nextXY 28 (by kernel_rfl) rfl (by kernel_rfl) rfl ?_
  clear H; intro w H
  refine r_call cc25 (fromUint64N (x := 3) (by first | omega | (dsimp only; omega))) H ?_
  clear H; rintro v52 M52 L52 w hM52 ⟨rfl, h52⟩ H
  refine ⟨_, _, hM52, H, ?_⟩
  refine Ver.nextXY 29 (by kernel_rfl) rfl (by kernel_rfl) rfl ?_
  clear H; intro w H
  refine r_call cc26 (eval_spec (k := 1) ((((g12.mono hM25)).mono hM51).mono hM52) (h51.mono hM52) h52 exF_lim (by unfold lim; decide) (by unfold lim; decide) (by first | omega | (dsimp only; omega))) H ?_
  clear H; rintro v53 M53 L53 w hM53 ⟨rfl, h53⟩ H
  refine ⟨_, _, hM53, H, ?_⟩
  refine Ver.nextXY 30 (by kernel_rfl) rfl (by kernel_rfl) rfl ?_
  clear H; intro w H
  refine r_call cc25 (fromUint64N (x := 12) (by first | omega | (dsimp only; omega))) H ?_
  clear H; rintro v54 M54 L54 w hM54 ⟨rfl, h54⟩ H
  refine ⟨_, _, hM54, H, ?_⟩
  refine Ver.nextXY 31 (by kernel_rfl) rfl (by kernel_rfl) rfl ?_
  clear H; intro w H
  refine r_call cc31 (equalN (h53.mono hM54) h54) H ?_
  clear H; rintro v55 M55 L55 w hM55 ⟨rfl, rfl, rfl⟩ H
  refine ⟨_, _, hM55, H, ?_⟩
  refine Ver.read (v := .bool _) 32 rfl (by kernel_rfl) (fun M' L' w hM H => r_pickB rfl rfl rfl ⟨rfl, rfl⟩) ?_
  refine Ver.read (v := .bool _) 33 rfl (by kernel_rfl) (fun M' L' w hM H => asB rfl ⟨rfl, rfl⟩) ?_
  refine Ver.finX (by kernel_rfl) ?_
  clear H; intro w H
  refine Goes.ret (ret1 (v := .bool _) rfl rfl rfl H.nil ⟨rfl, ?_⟩)
  have : decide (evalF exF 2 3 = 12) = true := by rw [exF_eval]; rfl
  rw [this]; rfl

end Go.Proofs.YtlcpdkckldlceaaGreatDoor
