/-
  The sorted terms of a polynomial.
-/
import Derived.Test.YtlcpdkckldlceaaGreatDoorFE
import Derived.Test.YtlcpdkckldlceaaGreatDoorLaySort
namespace Go.Proofs.YtlcpdkckldlceaaGreatDoor
open Go.Sx Go.Nat32 Go.PolyL Go.Proofs Go.Shelf Go.RowKit Go.Lib Go.Sort
set_option maxRecDepth 100000

def encP (k : Nat × Nat) : List Value := [.int .i64 (k.1 : Int), .int .i64 (k.2 : Int)]
def flat (ks : List (Nat × Nat)) : List Value := ks.flatMap encP
def cfP (x y : Nat × Nat) : Int := ordI ((x.1 : Int), (x.2 : Int)) ((y.1 : Int), (y.2 : Int))

theorem flat_get : ∀ (ks : List (Nat × Nat)) (j : Nat), j < ks.length * 2 → (flat ks)[j]? = some (encP ks[j / 2]!)[j % 2]!
  | [], j, h => by simp at h
  | k :: ks, 0, _ => rfl
  | k :: ks, 1, _ => rfl
  | k :: ks, j + 2, h => by
    have h1 : (j + 2) / 2 = j / 2 + 1 := by omega
    have h2 : (j + 2) % 2 = j % 2 := by omega
    have h3 : (flat (k :: ks))[j + 2]? = (flat ks)[j]? := rfl
    rw [h1, h2, h3, flat_get ks j (by simp at h ⊢; omega)]
    rfl
theorem flat_length (ks : List (Nat × Nat)) : (flat ks).length = ks.length * 2 := by
  induction ks with
  | nil => rfl
  | cons k ks ih => show (flat ks).length + 2 = _; rw [ih]; simp; omega
theorem flatK_list (d : Array (Nat × Nat)) : (flatK encP 2 d).toList = flat d.toList := by
  apply List.ext_getElem?
  intro j
  by_cases hj : j < d.size * 2
  · rw [flat_get _ _ (by simpa using hj)]
    have := get_flatK encP 2 d j hj
    rw [Array.getElem?_toList, Array.getElem?_eq_getElem (by simpa using hj)]
    rw [getElem!_pos (flatK encP 2 d) j (by simpa using hj)] at this
    rw [this]
    simp [Array.getElem!_eq_getD, Array.getD_eq_getD_getElem?]
  · rw [List.getElem?_eq_none (by simp; omega), List.getElem?_eq_none (by rw [flat_length]; simpa using hj)]

theorem cmpLays (blk off size : Nat) (w : World) : CmpLays Tryz.prog 53 #[] encP 2 cfP blk off size w := by
  intro m os dk _ x y
  have h := (order_spec (M := RO.none) (a := x.1) (b := x.2) (c := y.1) (d := y.2)).grows (sortWorldK encP 2 w blk off m dk os)
  refine h.mono ?_
  rintro e w' ⟨v, M', L', rfl, ⟨_, rfl⟩, hq⟩
  exact ⟨rfl, hq⟩

theorem ltP (x y : Nat × Nat) : ltOf cfP x y = decide (x.1 < y.1 ∨ x.1 = y.1 ∧ x.2 < y.2) := by
  unfold ltOf cfP ordI cmpI
  rw [decide_eq_decide]
  simp only
  repeat' split
  all_goals (constructor <;> intro h <;> omega)
theorem swoP : SWO (ltOf cfP) where
  irrefl x := by rw [ltP]; simp
  trans x y z h1 h2 := by rw [ltP] at *; simp only [decide_eq_true_eq] at *; omega
  ntrans x y z h1 h2 := by rw [ltP] at *; simp only [decide_eq_false_iff_not] at *; omega

/-- In ascending order, first by x. -/
def Asc (ks : List (Nat × Nat)) : Prop := ks.Pairwise fun x y => ¬ (y.1 < x.1 ∨ y.1 = x.1 ∧ y.2 < x.2)

theorem sort_spec {M : RO} {v : Value} {ks : List (Nat × Nat)} (hne : ks ≠ []) (hlen : ks.length ≤ 4294967296) :
    Sp Tryz.prog 96 [v, .func (.func 53) #[] #[]] M [sl 90 2 v (flat ks)] fun _ M' L' => M' = M ∧ ∃ ks', ks'.Perm ks ∧ Asc ks' ∧ L' = [sl 90 2 v (flat ks')] := by
  intro E hE H
  obtain ⟨A, R, hc, h0, hset, _⟩ := H.focus .head
  rcases hc with ⟨rfl, hx, rfl⟩ | ⟨b, c, len, cap, rfl, hl, hcap, hsz, htk, rfl⟩
  · exfalso
    have := congrArg List.length hx
    rw [flat_length] at this
    have h2 : ks.length = 0 := by simp at this; omega
    exact hne (List.eq_nil_of_length_eq_zero h2)
  · have hll : len = ks.length := by rw [flat_length] at hl; omega
    subst hll
    have hb : E.w.heap[b]? = some (.cells c 90 (0, 0)) := h0.own (b, _) (by simp)
    have hblk : b < E.w.heap.size := by
      rcases Nat.lt_or_ge b E.w.heap.size with h' | h'
      · exact h'
      · rw [Array.getElem?_eq_none h'] at hb; cases hb
    have hcell : ∀ j, j < ks.length * 2 → c[j]? = (flat ks)[j]? := by
      intro j hj
      rw [← htk, List.getElem?_take, if_pos hj, Array.getElem?_toList]
    have hH : HoldsK encP 2 E.w b 0 ks.toArray := by
      intro j hj
      rw [size_flatK] at hj
      have hj' : j < ks.length * 2 := by simpa using hj
      constructor
      · have h1 : E.w.cell? ⟨b, 0 + j, none⟩ = c[j]? := by simp [World.cell?, hb]
        rw [h1, hcell j hj', ← flatK_list ks.toArray, Array.getElem?_toList, Array.getElem?_eq_getElem (by simpa using hj)]
        rw [getElem!_pos (flatK encP 2 ks.toArray) j (by simpa using hj)]; rfl
      · simp [World.frozen?, hb]
    have eg : ∀ args w, (callFunc 53 args).run Tryz.prog w = .ok (.enter 53 args) w := fun args w => run_callFunc rfl args
    have hcon := AnyQ.slices_SortFunc Tryz.sort90 2 Tryz.isAgg90 Tryz.sizeOf90 encP (fun _ => rfl) (fun x v hv => by simp [encP] at hv; rcases hv with rfl | rfl <;> rfl) cfP swoP 53 #[] b 0 cap ks.toArray E.w eg (cmpLays b 0 _ E.w) hH hblk (by simp; omega)
    change Calls Tryz.prog 96 _ _ _ at hcon
    refine hcon.mono ?_
    rintro e w' ⟨rfl, d', n, os, hp, hs, rfl⟩
    have hsz' : d'.size = ks.length := by have := hp.1; simpa using this
    have hperm : d'.toList.Perm ks := by
      have h2 := hp.2.2
      have e1 : d'.extract 0 ks.toArray.size = d' := by
        rw [show ks.toArray.size = d'.size by simp [hsz']]; simp
      have e2 : ks.toArray.extract 0 ks.toArray.size = ks.toArray := by simp
      rw [e1, e2] at h2
      simpa using h2
    have hasc : Asc d'.toList := by
      refine List.pairwise_iff_getElem.2 fun i j hi hj hij => ?_
      have hj' : j < ks.toArray.size := by simp at hj; simp; omega
      have := hs i j (Nat.zero_le _) hij hj'
      rw [ltP] at this
      have g1 : d'[j]! = d'.toList[j] := by rw [getElem!_pos d' j (by simpa using hj)]; simp
      have g2 : d'[i]! = d'.toList[i] := by rw [getElem!_pos d' i (by simpa using hi)]; simp
      rw [g1, g2] at this
      simpa using this
    refine ⟨_, M, [sl 90 2 (.slice (some ⟨b, 0, none⟩) ks.length cap) (flat d'.toList)], rfl, ?_, rfl, d'.toList, hperm, hasc, rfl⟩
    have hfl : (flat d'.toList).length = ks.length * 2 := by rw [flat_length]; simp [hsz']
    have hle2 : ks.length * 2 ≤ c.size := by rw [hsz]; exact Nat.mul_le_mul_right _ hcap
    have h0' : Hp0 E M ((b, .cells c 90 (0, 0)) :: R) (Go.Sort.ahead E.w n) :=
      { h0 with drew := fun hd => Nat.le_trans (h0.drew hd) (Nat.le_add_right _ _) }
    have h1 : Hp0 E M ((b, .cells (putCells id 0 (flatK encP 2 d') c) 90 (0, 0)) :: R) (putRowK encP 2 (Go.Sort.ahead E.w n) b 0 d') := by
      refine h0'.turn rfl rfl rfl rfl (by simp [putRowK, putRow, mapBlock]) ?_ fun k hk => ?_
      · show (E.w.heap.modify b (onCells (putCells id 0 (flatK encP 2 d'))))[b]? = _
        rw [Array.getElem?_modify, if_pos rfl, hb]; rfl
      · show (E.w.heap.modify b (onCells (putCells id 0 (flatK encP 2 d'))))[k]? = E.w.heap[k]?
        rw [Array.getElem?_modify, if_neg (Ne.symm hk)]
    have h2 := hset E M _ (sl 90 2 (.slice (some ⟨b, 0, none⟩) ks.length cap) (flat d'.toList)) [(b, .cells (putCells id 0 (flatK encP 2 d') c) 90 (0, 0))] (.inr ⟨b, _, ks.length, cap, rfl, hfl, hcap, by simp [putCells, hsz], ?_, rfl⟩) h1
    · exact Hp.grow h2 os
    · apply List.ext_getElem?
      intro j
      rw [List.getElem?_take]
      by_cases hj : j < ks.length * 2
      · rw [if_pos hj, Array.getElem?_toList]
        have hjs : j < (flatK encP 2 d').size := by simp [hsz']; exact hj
        unfold putCells
        rw [Array.getElem?_mapIdx, Array.getElem?_eq_getElem (show j < c.size by omega)]
        rw [← flatK_list d', Array.getElem?_toList, Array.getElem?_eq_getElem hjs]
        simp only [Option.map_some, Nat.zero_le, true_and, Nat.zero_add, hjs, if_true, Nat.sub_zero, id]
        rw [getElem!_pos (flatK encP 2 d') j hjs]
      · rw [if_neg hj, List.getElem?_eq_none (by omega)]

end Go.Proofs.YtlcpdkckldlceaaGreatDoor
namespace Go.Proofs.YtlcpdkckldlceaaGreatDoor
open Go.Sx Go.Nat32 Go.PolyL
attribute [local irreducible] pt sl itc itm
set_option maxRecDepth 100000

theorem flat_snoc (ks : List (Nat × Nat)) (k : Nat × Nat) : flat (ks ++ [k]) = flat ks ++ encP k := by simp [flat]

/-- The powers of a polynomial, in order. -/
structure Pows (f : Nat → Nat → Nat) (ks : List (Nat × Nat)) : Prop where
  asc : Asc ks
  nodup : ks.Nodup
  mem : ∀ k, k ∈ ks ↔ f k.1 k.2 ≠ 0
  box : ∀ k ∈ ks, k.1 ≤ 2048 ∧ k.2 ≤ 2048

theorem powers_spec {M : RO} {v : Value} {f : Nat → Nat → Nat} (hv : PolyV M v f) (hne : ∃ a b, f a b ≠ 0) :
    Sp Tryz.prog 66 [v] M [] fun r M' L' => L' = [] ∧ ∃ a n c ks, r = .slice a n c ∧ n = ks.length ∧ RoRow M' a (flat ks) ∧ Pows f ks ∧ ks.length ≤ 2049 * 2049 := by
  obtain ⟨rv, ev, cv, rfl, hrv, hev⟩ := hv
  refine Sp.enter (n := 19) Tryz.func66 rfl Tryz.ntmps66 rfl ?_
  intro E hE H
  subst hE
  have nv := hev.length hrv.ok
  refine Goes.seq (Goes.region ?_)
  refine GoL.stepS rfl rfl (bxA rfl H ?_); clear H; intro b1 w hb1 H
  refine GoL.stepS rfl rfl (asL rfl ?_)
  refine GoL.nil ?_
  refine Goes.seq (Goes.region ?_)
  refine GoL.stepS rfl rfl (asL rfl ?_)
  refine GoL.nil ?_
  refine Goes.seq (Goes.seq (Goes.region ?_))
  first | refine GoL.stepS rfl rfl (r_fieldAddr0 fo24_0 rfl ?_) | refine GoL.stepS rfl rfl (r_fieldAddr fo24_0 rfl ?_)
  refine GoL.stepS rfl rfl (ldM tt22 rfl (H.own (by repeat constructor)) (by rfl) ?_)
  refine GoL.stepS rfl rfl (r_rangeM tt22 rfl H hrv ?_); clear H; intro b7 w hb7 H
  refine GoL.nil ?_
  refine Goes.block ?_
  have H := H.emp (sl_nil 90 2)
  refine Goes.loopS [3, 4, 8, 9, 10, 11, 12, 13, 14, 15] (fun (x : List MapEntry × Value) => [(3, x.2)]) (fun x w => DoneOK ev x.1 ∧ Hp E E.M [sl 90 2 x.2 (flat (x.1.map ex)), itm b7 rv cv x.1] w) (fun x => ev.length - x.1.length) ([], .slice none 0 0) ⟨rfl, trivial⟩ ⟨.nil _, H.sub (by (repeat (first | exact List.nil_sublist _ | apply List.Sublist.cons_cons | apply List.Sublist.cons)))⟩ ?_
  clear H
  rintro ⟨D, s⟩ f1 w ⟨hd, H⟩ again
  dsimp only at hd H
  refine Goes.seq (Goes.region ?_)
  refine GoL.stepS rfl rfl (r_nextM rfl H (.tail .head) hrv hd.sub hd.nodup ?_); clear H; intro o8 w ho8 H
  refine GoL.stepS rfl rfl (r_extract (v := .bool o8.isSome) rfl (by cases o8 <;> rfl) ?_)
  refine GoL.nil ?_
  refine Goes.seq ?_
  refine Goes.cond rfl (fun hs => ?_) (fun hs => ?_)
  · obtain ⟨e, rfl⟩ := Option.isSome_iff_exists.1 hs
    obtain ⟨he, hne⟩ := ho8
    obtain ⟨a, b, hkey, ha, hb, _, hval⟩ := hev.sound e he
    obtain ⟨ek, evv, eb⟩ := e
    dsimp only at hkey hval
    subst hkey
    have hle := (hd.push he hne).le
    refine Goes.skip (Goes.block (Goes.seq (Goes.region ?_)))
    refine GoL.stepS rfl rfl (r_entryM rfl H (.tail .head) hrv he ?_)
    refine GoL.stepS rfl rfl (r_extract (v := .agg #[.int _ _, .int _ _]) rfl rfl ?_)
    refine GoL.stepS rfl rfl (r_alloc tt90 H ?_); clear H; intro b4 w hb4 H
    refine GoL.step0 rfl (stA tt90 rfl rfl H (by repeat constructor) rfl rfl (by rfl) ?_); clear H; intro w H
    refine GoL.nil ?_
    refine Goes.region ?_
    refine GoL.stepS rfl rfl (r_mv (v := s) rfl ?_)
    refine GoL.stepS rfl rfl (ldA tt90 rfl (H.own (by repeat constructor)) rfl (by rfl) ?_)
    refine GoL.stepS rfl rfl (r_bsl (cells := [.int _ _, .int _ _]) tt87 tt90 rfl (by rfl) H ?_); clear H; intro b14 w hb14 H
    refine GoL.stepS rfl rfl (r_appendO (m := 1) tt87 tt90 tt87 (by intro k hk; cases hk) rfl rfl rfl H (.tail (.tail .head)) .head rfl rfl rfl rfl (by rw [flat_length]; simp at hle ⊢; omega) ?_); clear H; intro s15 w H
    refine GoL.stepS rfl rfl (r_as (v := s15) rfl ?_)
    refine GoL.nil ?_
    refine Goes.inBlock ?_
    refine again (D ++ [⟨key a b, evv, eb⟩], s15) _ _ ⟨rfl, trivial⟩ (.of_strip (by kernel_rfl)) ⟨hd.push he hne, ?_⟩ (hd.lt he hne)
    have e1 : flat ((D ++ [(⟨key a b, evv, eb⟩ : MapEntry)]).map ex) = flat (D.map ex) ++ [.int .i64 (a : Int), .int .i64 (b : Int)] := by
      rw [List.map_append, List.map_singleton, flat_snoc, ex_mk]; rfl
    dsimp only
    rw [e1]
    exact H.sub (by (repeat (first | exact List.nil_sublist _ | apply List.Sublist.cons_cons | apply List.Sublist.cons)))
  · have : o8 = none := by cases o8 <;> simp_all
    subst this
    have hmem : ∀ k, k ∈ D.map ex ↔ f k.1 k.2 ≠ 0 := by
      intro k
      constructor
      · intro hk
        obtain ⟨e, he, rfl⟩ := List.mem_map.1 hk
        obtain ⟨a, b, hkk, _, _, h0, _⟩ := hev.sound e (hd.sub e he)
        have : ex e = (a, b) := by unfold ex; rw [hkk, kxy_key]
        rw [this]; exact h0
      · intro h0
        obtain ⟨e, he, hkk⟩ := hev.complete _ _ h0
        exact List.mem_map.2 ⟨e, ho8.mem_iff.2 he, by unfold ex; rw [hkk, kxy_key]⟩
    have hnd : (D.map ex).Nodup := (ho8.map ex).nodup_iff.2 (hev.ex_nodup hrv.ok)
    have hbx : ∀ k ∈ D.map ex, k.1 ≤ 2048 ∧ k.2 ≤ 2048 := by
      intro k hk
      obtain ⟨e, he, rfl⟩ := List.mem_map.1 hk
      exact mem_box.1 (hev.ex_box (hd.sub e he)).1
    have hnn : D.map ex ≠ [] := by
      obtain ⟨a, b, h0⟩ := hne
      intro h
      have := (hmem (a, b)).2 h0
      rw [h] at this; cases this
    have hDl := hd.le
    refine Goes.exit rfl (Goes.seq (Goes.region ?_))
    refine GoL.stepS rfl rfl (r_mv (v := s) rfl ?_)
    refine GoL.stepS rfl rfl (r_call cc96 (sort_spec (ks := D.map ex) hnn (by simp; omega)) H ?_); clear H; rintro v17 M17 L17 w hM17 ⟨rfl, ks, hperm, hasc, rfl⟩ H
    refine GoL.nil ?_
    refine Goes.seq (Goes.region ?_)
    obtain ⟨M18, a, n, c, rfl, hl, hn, hrow, hle18, H⟩ := H.freezeSl .head
    refine GoL.stepS rfl rfl (mvL rfl ?_)
    refine GoL.stepS rfl rfl (asL rfl ?_)
    refine GoL.nil ?_
    refine Goes.ret (ret1 (v := .slice _ _ _) rfl rfl rfl H.nil ⟨rfl, a, n, c, ks, rfl, ?_, hrow, ⟨hasc, hperm.nodup_iff.2 hnd, fun k => (hperm.mem_iff).trans (hmem k), fun k hk => hbx k (hperm.mem_iff.1 hk)⟩, ?_⟩)
    · rw [flat_length] at hl; omega
    · rw [hperm.length_eq, List.length_map]; omega

end Go.Proofs.YtlcpdkckldlceaaGreatDoor
