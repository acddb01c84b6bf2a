/-
  What the reference functions return (second part).
-/
import Derived.Test.YtlcpdkckldlceaaGreatDoorFH
import Derived.Test.YtlcpdkckldlceaaGreatDoorFE
import Derived.Test.YtlcpdkckldlceaaGreatDoorFC
namespace Go.Proofs.YtlcpdkckldlceaaGreatDoor
open Go.Sx Go.Nat32 Go.Dec Go.PolyL
attribute [local irreducible] pt sl itc
set_option maxRecDepth 100000
set_option linter.unusedVariables false
set_option linter.unusedSimpArgs false

/-- The value is the reference's polynomial with the coefficients f, of m terms at most. -/
def RefPm (M : RO) (v : Value) (f : Nat → Nat → Nat) (m : Nat) : Prop := ∃ a c l, v = .slice a l.length c ∧ l.length ≤ c ∧ RoRow M a (flatT l) ∧ RepT M f l ∧ l.length ≤ m
theorem RefPm.mono {M M' : RO} {v : Value} {f : Nat → Nat → Nat} {m : Nat} (h : RefPm M v f m) (hM : M.le M') : RefPm M' v f m :=
  let ⟨a, c, l, h1, h3, h4, h5, h6⟩ := h; ⟨a, c, l, h1, h3, h4.mono hM, h5.mono hM, h6⟩
theorem RefPm.zero (M : RO) : RefPm M (.slice none 0 0) (fun _ _ => 0) 0 := ⟨none, 0, [], rfl, Nat.le_refl _, .inl rfl, .nil M, Nat.le_refl _⟩
theorem RefPm.shape {M : RO} {v : Value} {f : Nat → Nat → Nat} {m : Nat} (h : RefPm M v f m) : ∃ a n c, v = .slice a n c := let ⟨a, c, _, h1, _⟩ := h; ⟨a, _, c, h1⟩

theorem radd40_spec {M : RO} {u v : Value} {f g : Nat → Nat → Nat} {k m m' : Nat} (hu : RefPm M u f m) (hv : RefPm M v g m') (hk : k ≤ 900000) (hfg : ∀ a b, f a b + g a b < 10 ^ k) (hl : m + m' ≤ 1000000) :
    Sp Tryz.prog 19 [u, v] M [] fun r M' L' => L' = [] ∧ RefPm M' r (fun a b => f a b + g a b) (m + m') := by
  obtain ⟨pa, pc, lp, rfl, hpc, hp, hpr, hpm⟩ := hu
  obtain ⟨qa, qc, lq, rfl, hqc, hq, hqr, hqm⟩ := hv
  refine (refadd_spec rfl hp hpr rfl hq hqr hk hfg (by omega)).mono ?_
  rintro r M' L' _ ⟨rfl, a, c, l, rfl, h1, h2, h3, h4⟩
  exact ⟨rfl, a, c, l, rfl, h1, h2, h3, by omega⟩

/-- A term of a row that is read-only. -/
theorem RowT.at {M : RO} {a : Option Addr} {l : List T3} (hr : RoRow M a (flatT l)) {j : Nat} {t : T3} (hj : l[j]? = some t) :
    ∃ b o cs e z, a = some ⟨b, o, none⟩ ∧ M b = some (.cells cs e z) ∧ cs[o + j * 3]? = some t.1 ∧ cs[o + (j * 3 + 1)]? = some (iv t.2.1) ∧ cs[o + (j * 3 + 2)]? = some (iv t.2.2) := by
  obtain ⟨hq0, hq1, hq2⟩ := flatT_get hj
  obtain ⟨b, o, cs, e, z, h, hM, hc0⟩ := hr.at hq0
  obtain ⟨_, _, _, _, _, h1, h2, hc1⟩ := hr.at hq1
  rw [h] at h1; cases h1; rw [hM] at h2; cases h2
  obtain ⟨_, _, _, _, _, h1, h2, hc2⟩ := hr.at hq2
  rw [h] at h1; cases h1; rw [hM] at h2; cases h2
  exact ⟨b, o, cs, e, z, h, hM, hc0, hc1, hc2⟩

theorem RowT.one {M : RO} {b : Nat} {v : Value} {a c : Nat} (h : M b = some (.cells #[v, iv a, iv c] 104 (0, 0))) : RoRow M (some ⟨b, 0, none⟩) (flatT [(v, a, c)]) :=
  .inr ⟨b, 0, _, _, _, rfl, h, Nat.le_refl _, rfl⟩
theorem RepT.one {M : RO} {v : Value} {x a b : Nat} (h : RefN M v x) (hx : x ≠ 0) (ha : a ≤ 2048) (hb : b ≤ 2048) : RepT M (monoF x a b) [(v, a, b)] where
  asc := by simp
  val := fun t ht => by
    obtain rfl := List.mem_singleton.1 ht
    have : monoF x a b a b = x := by simp [monoF, upd]
    dsimp only; rw [this]; exact ⟨hx, h⟩
  all := fun c d hcd => by
    unfold monoF upd at hcd
    split at hcd
    · rename_i h; obtain ⟨rfl, rfl⟩ := h; exact ⟨_, List.mem_singleton_self _, rfl⟩
    · exact absurd rfl hcd
  box := fun t ht => by obtain rfl := List.mem_singleton.1 ht; exact ⟨ha, hb⟩

theorem rof40_spec {M : RO} {u : Value} {x a b : Nat} (hu : RefN M u x) (ha : a ≤ 2048) (hb : b ≤ 2048) :
    Sp Tryz.prog 36 [u, .int .i64 (a : Int), .int .i64 (b : Int)] M [] fun r M' L' => L' = [] ∧ RefPm M' r (monoF x a b) 1 := by
  have hx := hu
  obtain ⟨ua, un, uc, rfl, hrow⟩ := hu
  have hlen := hrow.len
  refine Sp.enter (n := 15) Tryz.func36 rfl Tryz.ntmps36 rfl ?_
  intro E hE H
  subst hE
  refine Goes.seq (Goes.region ?_)
  refine GoL.stepS rfl rfl (asL rfl ?_)
  refine GoL.nil ?_
  refine Goes.seq (Goes.seq (Goes.region ?_))
  refine GoL.stepS rfl rfl (mvL rfl ?_)
  refine GoL.stepS rfl rfl (r_lenSlice tt55 rfl ?_)
  refine GoL.stepS rfl rfl (r_eql rfl rfl ?_)
  refine GoL.nil ?_
  refine Goes.cond rfl (fun hc => ?_) (fun hc => ?_)
  · have hn : un = 0 := by simpa using hc
    have h0 : x = 0 := by
      by_cases h : x = 0
      · exact h
      · exact absurd (List.eq_nil_of_length_eq_zero (by omega)) (dgs_ne h)
    subst h0
    refine Goes.seq (Goes.region ?_)
    refine GoL.stepS rfl rfl (asL rfl ?_)
    refine GoL.nil ?_
    refine Goes.ret (ret1 (v := .slice _ _ _) rfl rfl rfl H.nil ⟨rfl, none, 0, [], rfl, Nat.le_refl _, .inl rfl, ?_, Nat.zero_le _⟩)
    have : monoF 0 a b = fun _ _ => 0 := by funext c d; unfold monoF upd; split <;> rfl
    rw [this]; exact .nil _
  · have hn : un ≠ 0 := by simpa using hc
    have hx0 : x ≠ 0 := by intro h; subst h; rw [dgs_zero] at hlen; exact hn hlen
    refine Goes.skip (Goes.seq (Goes.region ?_))
    refine GoL.stepS rfl rfl (mvL rfl ?_)
    refine GoL.stepS rfl rfl (mvI rfl ?_)
    refine GoL.stepS rfl rfl (mvI rfl ?_)
    refine GoL.stepS rfl rfl (bld (cells := [.slice _ _ _, .int _ _, .int _ _]) tt104 pl104 pz104 rfl (by rfl) ?_)
    refine GoL.stepS rfl rfl (r_bsl (cells := [.slice _ _ _, .int _ _, .int _ _]) tt29 tt104 rfl (by rfl) H ?_); clear H; intro b14 w hb14 H
    refine GoL.stepS rfl rfl (asL rfl ?_)
    refine GoL.nil ?_
    obtain ⟨M2, hM2, hle, H⟩ := H.freezeX (i := 0) .head
    exact Goes.ret (ret1 (v := .slice _ _ _) rfl rfl rfl H.nil ⟨rfl, _, 1, [(_, a, b)], rfl, Nat.le_refl _, RowT.one hM2, RepT.one (hx.mono hle) hx0 ha hb, Nat.le_refl _⟩)

theorem rat40_spec {M : RO} {u : Value} {f : Nat → Nat → Nat} {m : Nat} {a b : Int} (hu : RefPm M u f m) (hm : m ≤ 1000000) :
    Sp Tryz.prog 40 [u, .int .i64 a, .int .i64 b] M [] fun r M' L' => L' = [] ∧ M' = M ∧ RefN M' r (if 0 ≤ a ∧ 0 ≤ b then f a.toNat b.toNat else 0) := by
  obtain ⟨pa, pc, lp, rfl, hpc, hp, hpr, hpm⟩ := hu
  refine Sp.enter (n := 35) Tryz.func40 rfl Tryz.ntmps40 rfl ?_
  intro E hE H
  subst hE
  refine Goes.seq (Goes.region ?_)
  refine GoL.stepS rfl rfl (asL rfl ?_)
  refine GoL.nil ?_
  refine Goes.seq (Goes.seq (Goes.region ?_))
  refine GoL.stepS rfl rfl (asI rfl ?_)
  refine GoL.nil ?_
  refine Goes.block ?_
  refine Goes.loopS (6 :: 7 :: 8 :: 9 :: 10 :: 11 :: 12 :: 13 :: 14 :: 15 :: 16 :: 17 :: 18 :: 19 :: 20 :: 21 :: 22 :: 23 :: 24 :: 25 :: 26 :: 27 :: 28 :: 29 :: 30 :: 31 :: 32 :: 33 :: 34 :: []) (fun (i : Nat) => [(7, .int .i64 (i : Int))]) (fun i w => i ≤ lp.length ∧ (∀ t ∈ lp.take i, ¬ ((t.2.1 : Int) = a ∧ (t.2.2 : Int) = b)) ∧ Hp E E.M [] w) (fun i => lp.length - i) 0 ⟨rfl, trivial⟩ ⟨Nat.zero_le _, (fun t ht => by simp at ht), H⟩ ?_
  clear H
  rintro i f1 w ⟨hi, hno, H⟩ again
  refine Goes.seq (Goes.seq (Goes.region ?_))
  refine GoL.stepS rfl rfl (mvI rfl ?_)
  refine GoL.stepS rfl rfl (mvL rfl ?_)
  refine GoL.stepS rfl rfl (r_lenSlice tt29 rfl ?_)
  refine GoL.stepS rfl rfl (r_lss rfl rfl ?_)
  refine GoL.nil ?_
  refine Goes.cond rfl (fun hc => ?_) (fun hc => ?_)
  · have hin : i < lp.length := by have : (i : Int) < (lp.length : Int) := by simpa using hc
                                   omega
    obtain ⟨⟨tv, ta, tb⟩, ht⟩ : ∃ t, lp[i]? = some t := ⟨lp[i], List.getElem?_eq_getElem hin⟩
    obtain ⟨qb, qo, qcs, qe, qz, rfl, hMq, hc0, hc1, hc2⟩ := RowT.at hp ht
    obtain ⟨hg0, hgv⟩ := hpr.val _ (List.mem_of_getElem? ht)
    dsimp only at hc0 hc1 hc2 hg0 hgv
    obtain ⟨na, nn, nc, rfl⟩ := hgv.shape
    have htk : lp.take (i + 1) = lp.take i ++ [(.slice na nn nc, ta, tb)] := by rw [List.take_add_one, ht]; rfl
    by_cases hA : (ta : Int) = a
    · by_cases hB : (tb : Int) = b
      · refine Goes.skip (Goes.seq (Goes.block (Goes.seq (Goes.region ?_))))
        refine GoL.stepS rfl rfl (mvL rfl ?_)
        refine GoL.stepS rfl rfl (mvI rfl ?_)
        refine GoL.stepS rfl rfl (r_indexAddrN tt29 tt104 rfl rfl hin ?_)
        first | refine GoL.stepS rfl rfl (r_fieldAddr0 fo104_1 rfl ?_) | refine GoL.stepS rfl rfl (r_fieldAddr fo104_1 rfl ?_)
        refine GoL.stepS rfl rfl (ldI tt3 rfl (H.ro hMq) hc1 ?_)
        refine GoL.stepS rfl rfl (mvI rfl ?_)
        refine GoL.stepS rfl rfl (r_eqlT rfl rfl hA ?_)
        refine GoL.stepS rfl rfl (mvB rfl ?_)
        refine GoL.stepYS rfl rfl rfl (mvL rfl ?_)
        refine GoL.stepYS rfl rfl rfl (mvI rfl ?_)
        refine GoL.stepYS rfl rfl rfl (r_indexAddrN tt29 tt104 rfl rfl hin ?_)
        first | refine GoL.stepYS rfl rfl rfl (r_fieldAddr0 fo104_2 rfl ?_) | refine GoL.stepYS rfl rfl rfl (r_fieldAddr fo104_2 rfl ?_)
        refine GoL.stepYS rfl rfl rfl (ldI tt3 rfl (H.ro hMq) hc2 ?_)
        refine GoL.stepYS rfl rfl rfl (mvI rfl ?_)
        refine GoL.stepYS rfl rfl rfl (r_eqlT rfl rfl hB ?_)
        refine GoL.stepS rfl rfl (r_pickT (v := .bool true) rfl rfl ?_)
        refine GoL.nil ?_
        refine Goes.condT rfl (rfl) ?_
        refine Goes.seq (Goes.region ?_)
        refine GoL.stepS rfl rfl (mvL rfl ?_)
        refine GoL.stepS rfl rfl (mvI rfl ?_)
        refine GoL.stepS rfl rfl (r_indexAddrN tt29 tt104 rfl rfl hin ?_)
        first | refine GoL.stepS rfl rfl (r_fieldAddr0 fo104_0 rfl ?_) | refine GoL.stepS rfl rfl (r_fieldAddr fo104_0 rfl ?_)
        refine GoL.stepS rfl rfl (ldL tt55 rfl (H.ro hMq) hc0 ?_)
        refine GoL.stepS rfl rfl (asL rfl ?_)
        refine GoL.nil ?_
        refine Goes.ret (ret1 (v := .slice _ _ _) rfl rfl rfl H.nil ⟨rfl, rfl, ?_⟩)
        subst hA hB
        rw [if_pos ⟨Int.natCast_nonneg _, Int.natCast_nonneg _⟩, Int.toNat_natCast, Int.toNat_natCast]
        exact hgv
      · have hne : ¬ ((ta : Int) = a ∧ (tb : Int) = b) := fun h => hB h.2
        refine Goes.skip (Goes.seq (Goes.block (Goes.seq (Goes.region ?_))))
        refine GoL.stepS rfl rfl (mvL rfl ?_)
        refine GoL.stepS rfl rfl (mvI rfl ?_)
        refine GoL.stepS rfl rfl (r_indexAddrN tt29 tt104 rfl rfl hin ?_)
        first | refine GoL.stepS rfl rfl (r_fieldAddr0 fo104_1 rfl ?_) | refine GoL.stepS rfl rfl (r_fieldAddr fo104_1 rfl ?_)
        refine GoL.stepS rfl rfl (ldI tt3 rfl (H.ro hMq) hc1 ?_)
        refine GoL.stepS rfl rfl (mvI rfl ?_)
        refine GoL.stepS rfl rfl (r_eqlT rfl rfl hA ?_)
        refine GoL.stepS rfl rfl (mvB rfl ?_)
        refine GoL.stepYS rfl rfl rfl (mvL rfl ?_)
        refine GoL.stepYS rfl rfl rfl (mvI rfl ?_)
        refine GoL.stepYS rfl rfl rfl (r_indexAddrN tt29 tt104 rfl rfl hin ?_)
        first | refine GoL.stepYS rfl rfl rfl (r_fieldAddr0 fo104_2 rfl ?_) | refine GoL.stepYS rfl rfl rfl (r_fieldAddr fo104_2 rfl ?_)
        refine GoL.stepYS rfl rfl rfl (ldI tt3 rfl (H.ro hMq) hc2 ?_)
        refine GoL.stepYS rfl rfl rfl (mvI rfl ?_)
        refine GoL.stepYS rfl rfl rfl (r_eqlF rfl rfl hB ?_)
        refine GoL.stepS rfl rfl (r_pickT (v := .bool false) rfl rfl ?_)
        refine GoL.nil ?_
        refine Goes.condF rfl (rfl) ?_
        refine Goes.skip (Goes.inBlock (Goes.region ?_))
        refine GoL.stepS rfl rfl (mvI rfl ?_)
        first | refine GoL.stepS rfl rfl (r_addI rfl rfl (by first | omega | (dsimp only; omega)) (by first | omega | (dsimp only; omega)) ?_) | refine GoL.stepS rfl rfl (r_add rfl rfl ?_)
        refine GoL.stepS rfl rfl (asI rfl ?_)
        refine GoL.nil ?_
        refine again (i + 1) _ _ ⟨rfl, trivial⟩ (.of_strip (by kernel_rfl)) ⟨by omega, ?_, H⟩ (by omega)
        intro t ht
        rw [htk] at ht
        rcases List.mem_append.1 ht with ht | ht
        · exact hno t ht
        · obtain rfl := List.mem_singleton.1 ht; exact hne
    · have hne : ¬ ((ta : Int) = a ∧ (tb : Int) = b) := fun h => hA h.1
      refine Goes.skip (Goes.seq (Goes.block (Goes.seq (Goes.region ?_))))
      refine GoL.stepS rfl rfl (mvL rfl ?_)
      refine GoL.stepS rfl rfl (mvI rfl ?_)
      refine GoL.stepS rfl rfl (r_indexAddrN tt29 tt104 rfl rfl hin ?_)
      first | refine GoL.stepS rfl rfl (r_fieldAddr0 fo104_1 rfl ?_) | refine GoL.stepS rfl rfl (r_fieldAddr fo104_1 rfl ?_)
      refine GoL.stepS rfl rfl (ldI tt3 rfl (H.ro hMq) hc1 ?_)
      refine GoL.stepS rfl rfl (mvI rfl ?_)
      refine GoL.stepS rfl rfl (r_eqlF rfl rfl hA ?_)
      refine GoL.stepS rfl rfl (mvB rfl ?_)
      refine GoL.stepNS rfl rfl rfl ?_
      refine GoL.stepNS rfl rfl rfl ?_
      refine GoL.stepNS rfl rfl rfl ?_
      refine GoL.stepNS rfl rfl rfl ?_
      refine GoL.stepNS rfl rfl rfl ?_
      refine GoL.stepNS rfl rfl rfl ?_
      refine GoL.stepNS rfl rfl rfl ?_
      refine GoL.stepS rfl rfl (r_pickF (v := .bool false) rfl rfl ?_)
      refine GoL.nil ?_
      refine Goes.condF rfl (rfl) ?_
      refine Goes.skip (Goes.inBlock (Goes.region ?_))
      refine GoL.stepS rfl rfl (mvI rfl ?_)
      first | refine GoL.stepS rfl rfl (r_addI rfl rfl (by first | omega | (dsimp only; omega)) (by first | omega | (dsimp only; omega)) ?_) | refine GoL.stepS rfl rfl (r_add rfl rfl ?_)
      refine GoL.stepS rfl rfl (asI rfl ?_)
      refine GoL.nil ?_
      refine again (i + 1) _ _ ⟨rfl, trivial⟩ (.of_strip (by kernel_rfl)) ⟨by omega, ?_, H⟩ (by omega)
      intro t ht
      rw [htk] at ht
      rcases List.mem_append.1 ht with ht | ht
      · exact hno t ht
      · obtain rfl := List.mem_singleton.1 ht; exact hne
  · have hin : i = lp.length := by have : ¬ (i : Int) < (lp.length : Int) := by simpa using hc
                                   omega
    subst hin
    rw [List.take_length] at hno
    refine Goes.exit rfl (Goes.seq (Goes.region ?_))
    refine GoL.stepS rfl rfl (asL rfl ?_)
    refine GoL.nil ?_
    refine Goes.ret (ret1 (v := .slice _ _ _) rfl rfl rfl H.nil ⟨rfl, rfl, ?_⟩)
    have : (if 0 ≤ a ∧ 0 ≤ b then f a.toNat b.toNat else 0) = 0 := by
      split
      · rename_i h
        by_cases h0 : f a.toNat b.toNat = 0
        · exact h0
        · obtain ⟨t, ht, he⟩ := hpr.all _ _ h0
          exact absurd ⟨by rw [he]; exact Int.toNat_of_nonneg h.1, by rw [he]; exact Int.toNat_of_nonneg h.2⟩ (hno t ht)
      · rfl
    rw [this]; exact .zero _

end Go.Proofs.YtlcpdkckldlceaaGreatDoor
namespace Go.Proofs.YtlcpdkckldlceaaGreatDoor
open Go.Sx Go.Nat32 Go.Dec Go.PolyL
attribute [local irreducible] pt sl itc
set_option maxRecDepth 100000
set_option linter.unusedVariables false
set_option linter.unusedSimpArgs false

/-- The greatest exponents of the first terms. -/
structure DegL (l : List T3) (p : T3 → Nat) (x : Int) : Prop where
  low : -1 ≤ x
  high : x ≤ 2048
  ge : ∀ t ∈ l, (p t : Int) ≤ x
  at_ : x = -1 ∨ ∃ t ∈ l, x = (p t : Int)
theorem DegL.step {l : List T3} {p : T3 → Nat} {x : Int} {t : T3} (h : DegL l p x) (ht : p t ≤ 2048) : DegL (l ++ [t]) p (max x (p t : Int)) where
  low := by have := h.low; omega
  high := by have := h.high; omega
  ge := fun s hs => by
    rcases List.mem_append.1 hs with hs | hs
    · have := h.ge s hs; omega
    · obtain rfl := List.mem_singleton.1 hs; omega
  at_ := by
    by_cases hc : x ≤ (p t : Int)
    · exact .inr ⟨t, by simp, by omega⟩
    · rcases h.at_ with h' | ⟨s, hs, h'⟩
      · have := h.low; omega
      · exact .inr ⟨s, List.mem_append_left _ hs, by omega⟩
theorem DegL.deg {M : RO} {f : Nat → Nat → Nat} {l : List T3} {p : Nat → Nat → Nat} {x : Int} (hr : RepT M f l) (h : DegL l (fun t => p t.2.1 t.2.2) x) : IsDeg f p x where
  low := h.low
  high := h.high
  ge := fun a b hab => by
    obtain ⟨t, ht, he⟩ := hr.all a b hab
    have := h.ge t ht
    rw [he] at this; exact this
  at_ := by
    rcases h.at_ with h' | ⟨t, ht, h'⟩
    · exact .inl h'
    · exact .inr ⟨_, _, (hr.val t ht).1, h'⟩

theorem rdeg_spec {M : RO} {u : Value} {f : Nat → Nat → Nat} {m : Nat} (hu : RefPm M u f m) (hm : m ≤ 1000000) :
    Sp Tryz.prog 38 [u] M [] fun r M' L' => L' = [] ∧ M' = M ∧ ∃ x y, r = .tuple #[.int .i64 x, .int .i64 y] ∧ IsDeg f (fun a _ => a) x ∧ IsDeg f (fun _ b => b) y := by
  obtain ⟨pa, pc, lp, rfl, hpc, hp, hpr, hpm⟩ := hu
  refine Sp.enter (n := 29) Tryz.func38 rfl Tryz.ntmps38 rfl ?_
  intro E hE H
  subst hE
  refine Goes.seq (Goes.region ?_)
  refine GoL.stepS rfl rfl (asI rfl ?_)
  refine GoL.stepS rfl rfl (asI rfl ?_)
  refine GoL.nil ?_
  refine Goes.seq (Goes.region ?_)
  refine GoL.stepS rfl rfl (asI rfl ?_)
  refine GoL.stepS rfl rfl (asI rfl ?_)
  refine GoL.nil ?_
  refine Goes.seq (Goes.seq (Goes.region ?_))
  refine GoL.stepS rfl rfl (asI rfl ?_)
  refine GoL.nil ?_
  refine Goes.block ?_
  refine Goes.loopS (4 :: 5 :: 6 :: 7 :: 8 :: 9 :: 10 :: 11 :: 12 :: 13 :: 14 :: 15 :: 16 :: 17 :: 18 :: 19 :: 20 :: 21 :: 22 :: 23 :: 24 :: 25 :: 26 :: []) (fun (s : Nat × Int × Int) => [(6, .int .i64 (s.1 : Int)), (4, .int .i64 s.2.1), (5, .int .i64 s.2.2)]) (fun s w => s.1 ≤ lp.length ∧ DegL (lp.take s.1) (fun t => t.2.1) s.2.1 ∧ DegL (lp.take s.1) (fun t => t.2.2) s.2.2 ∧ Hp E E.M [] w) (fun s => lp.length - s.1) (0, -1, -1) ⟨rfl, rfl, rfl, trivial⟩ ⟨Nat.zero_le _, ⟨by decide, by decide, (fun t ht => by simp at ht), .inl rfl⟩, ⟨by decide, by decide, (fun t ht => by simp at ht), .inl rfl⟩, H⟩ ?_
  clear H
  rintro ⟨i, x, y⟩ f1 w ⟨hi, hx, hy, H⟩ again
  dsimp only at hi hx hy H
  refine Goes.seq (Goes.seq (Goes.region ?_))
  refine GoL.stepS rfl rfl (mvI rfl ?_)
  refine GoL.stepS rfl rfl (mvL rfl ?_)
  refine GoL.stepS rfl rfl (r_lenSlice tt29 rfl ?_)
  refine GoL.stepS rfl rfl (r_lss rfl rfl ?_)
  refine GoL.nil ?_
  refine Goes.cond rfl (fun hc => ?_) (fun hc => ?_)
  · have hin : i < lp.length := by have : (i : Int) < (lp.length : Int) := by simpa using hc
                                   omega
    obtain ⟨⟨tv, ta, tb⟩, ht⟩ : ∃ t, lp[i]? = some t := ⟨lp[i], List.getElem?_eq_getElem hin⟩
    obtain ⟨qb, qo, qcs, qe, qz, rfl, hMq, hc0, hc1, hc2⟩ := RowT.at hp ht
    have hbox := hpr.box _ (List.mem_of_getElem? ht)
    dsimp only at hc0 hc1 hc2 hbox
    have htk : lp.take (i + 1) = lp.take i ++ [(tv, ta, tb)] := by rw [List.take_add_one, ht]; rfl
    refine Goes.skip (Goes.seq (Goes.block ?_))
    refine Goes.regionD0 mixed (by kernel_rfl) 17 H ?_
    refine Ver.read (v := .int _ _) 0 rfl (by kernel_rfl) (fun M' L' w hM H => mvI rfl ⟨rfl, rfl⟩) ?_
    refine Ver.read (v := .slice _ _ _) 1 rfl (by kernel_rfl) (fun M' L' w hM H => mvL rfl ⟨rfl, rfl⟩) ?_
    refine Ver.read (v := .int _ _) 2 rfl (by kernel_rfl) (fun M' L' w hM H => mvI rfl ⟨rfl, rfl⟩) ?_
    refine Ver.read (v := .pointer _) 3 rfl (by kernel_rfl) (fun M' L' w hM H => r_indexAddrN tt29 tt104 rfl rfl hin ⟨rfl, rfl⟩) ?_
    first | refine Ver.read (v := .pointer _) 4 rfl (by kernel_rfl) (fun M' L' w hM H => r_fieldAddr0 fo104_1 rfl ⟨rfl, rfl⟩) ?_ | refine Ver.read (v := .pointer _) 4 rfl (by kernel_rfl) (fun M' L' w hM H => r_fieldAddr fo104_1 rfl ⟨rfl, rfl⟩) ?_
    refine Ver.read (v := .int _ _) 5 rfl (by kernel_rfl) (fun M' L' w hM H => ldI tt3 rfl (H.ro (hM _ _ hMq)) hc1 ⟨rfl, rfl⟩) ?_
    refine Ver.read (v := (.int .i64 _)) 6 rfl (by kernel_rfl) (fun M' L' w hM H => r_max2 rfl rfl ⟨rfl, rfl⟩) ?_
    refine Ver.read (v := .int _ _) 7 rfl (by kernel_rfl) (fun M' L' w hM H => mvI rfl ⟨rfl, rfl⟩) ?_
    refine Ver.read (v := .slice _ _ _) 8 rfl (by kernel_rfl) (fun M' L' w hM H => mvL rfl ⟨rfl, rfl⟩) ?_
    refine Ver.read (v := .int _ _) 9 rfl (by kernel_rfl) (fun M' L' w hM H => mvI rfl ⟨rfl, rfl⟩) ?_
    refine Ver.read (v := .pointer _) 10 rfl (by kernel_rfl) (fun M' L' w hM H => r_indexAddrN tt29 tt104 rfl rfl hin ⟨rfl, rfl⟩) ?_
    first | refine Ver.read (v := .pointer _) 11 rfl (by kernel_rfl) (fun M' L' w hM H => r_fieldAddr0 fo104_2 rfl ⟨rfl, rfl⟩) ?_ | refine Ver.read (v := .pointer _) 11 rfl (by kernel_rfl) (fun M' L' w hM H => r_fieldAddr fo104_2 rfl ⟨rfl, rfl⟩) ?_
    refine Ver.read (v := .int _ _) 12 rfl (by kernel_rfl) (fun M' L' w hM H => ldI tt3 rfl (H.ro (hM _ _ hMq)) hc2 ⟨rfl, rfl⟩) ?_
    refine Ver.read (v := (.int .i64 _)) 13 rfl (by kernel_rfl) (fun M' L' w hM H => r_max2 rfl rfl ⟨rfl, rfl⟩) ?_
    refine Ver.next0 14 (by kernel_rfl) rfl (by kernel_rfl) ?_
    clear H; intro w H
    refine asI rfl ?_
    refine ⟨_, RO.le.refl _, H, ?_⟩
    refine Ver.bar0 15 (by kernel_rfl) rfl (by kernel_rfl) ?_
    clear H; intro w H
    refine asI rfl ?_
    refine ⟨_, _, RO.le.refl _, H, ?_⟩
    refine Ver.fin0 (by kernel_rfl) ?_
    clear H; intro w H
    refine Goes.inBlock (Goes.region ?_)
    refine GoL.stepS rfl rfl (mvI rfl ?_)
    first | refine GoL.stepS rfl rfl (r_addI rfl rfl (by first | omega | (dsimp only; omega)) (by first | omega | (dsimp only; omega)) ?_) | refine GoL.stepS rfl rfl (r_add rfl rfl ?_)
    refine GoL.stepS rfl rfl (asI rfl ?_)
    refine GoL.nil ?_
    refine again (i + 1, max x ta, max y tb) _ _ ⟨rfl, rfl, rfl, trivial⟩ (.of_strip (by kernel_rfl)) ⟨by first | omega | (dsimp only; omega), ?_, ?_, H⟩ (by first | omega | (dsimp only; omega))
    · dsimp only; rw [htk]; exact hx.step hbox.1
    · dsimp only; rw [htk]; exact hy.step hbox.2
  · have hin : i = lp.length := by have : ¬ (i : Int) < (lp.length : Int) := by simpa using hc
                                   omega
    subst hin
    rw [List.take_length] at hx hy
    refine Goes.exit rfl (Goes.seq (Goes.region ?_))
    refine GoL.stepS rfl rfl (mvI rfl ?_)
    refine GoL.stepS rfl rfl (mvI rfl ?_)
    refine GoL.stepS rfl rfl (asI rfl ?_)
    refine GoL.stepS rfl rfl (asI rfl ?_)
    refine GoL.nil ?_
    exact Goes.ret (ret2 (v := .int _ _) (v' := .int _ _) rfl rfl rfl rfl H.nil ⟨rfl, rfl, x, y, rfl, hx.deg (p := fun a _ => a) hpr, hy.deg (p := fun _ b => b) hpr⟩)

/-- Sums over the terms of a list that stands for f. -/
theorem RepT.sum {M : RO} {f : Nat → Nat → Nat} {l : List T3} (h : RepT M f l) {F : Nat × Nat → Nat} (hF : ∀ k, f k.1 k.2 = 0 → F k = 0) : sumL l (fun t => F t.2) = sumL Go.PolyL.box F := by
  refine sum_keys (l := l) (key := fun t : T3 => t.2) (F := F) ?_ (fun t ht => mem_box.2 (h.box t ht)) fun k hk => ?_
  · refine List.pairwise_map.2 (h.asc.imp fun h e => ?_)
    rw [e] at h; exact kl.irrefl h
  · have h0 : f k.1 k.2 ≠ 0 := fun h0 => hk (hF k h0)
    exact h.all _ _ h0

theorem pow10_pow {x k j : Nat} (h : x < 10 ^ k) : x ^ j < 10 ^ (k * j + 1) := by
  have h1 : x ^ j ≤ (10 ^ k) ^ j := Nat.pow_le_pow_left (by omega) j
  rw [← Nat.pow_mul] at h1
  rw [Nat.pow_succ]
  have hp : 0 < 10 ^ (k * j) := Nat.pow_pos (by decide)
  omega
theorem pow10_mul {x y k l : Nat} (h : x < 10 ^ k) (h' : y < 10 ^ l) : x * y < 10 ^ (k + l) := by
  rw [Nat.pow_add]
  exact Nat.mul_lt_mul'' h h'
theorem pow10_mono {x k l : Nat} (h : x < 10 ^ k) (hl : k ≤ l) : x < 10 ^ l := Nat.lt_of_lt_of_le h (Nat.pow_le_pow_right (by decide) hl)

/-- The exponents that occur are small. -/
def ExpLe (f : Nat → Nat → Nat) (d : Nat) : Prop := ∀ a b, f a b ≠ 0 → a ≤ d ∧ b ≤ d

theorem rvalue_spec {M : RO} {u v1 v2 : Value} {f : Nat → Nat → Nat} {m x y k d : Nat} (hu : RefPm M u f m) (h1 : RefN M v1 x) (h2 : RefN M v2 y) (lx : x < 10 ^ k) (ly : y < 10 ^ k) (lf : ∀ a b, f a b < 10 ^ k) (hd : ExpLe f d) (hk : k + 2 * (k * d + 1) ≤ 900000) (hm : m ≤ 10000) :
    Sp Tryz.prog 29 [u, v1, v2] M [] fun r M' L' => L' = [] ∧ RefN M' r (evalF f x y) := by
  obtain ⟨pa, pc, lp, rfl, hpc, hp, hpr, hpm⟩ := hu
  obtain ⟨xa, xn, xc, rfl⟩ := h1.shape
  obtain ⟨ya, yn, yc, rfl⟩ := h2.shape
  have hev : evalF f x y = sumL lp fun t => f t.2.1 t.2.2 * x ^ t.2.1 * y ^ t.2.2 := (hpr.sum (F := fun k => f k.1 k.2 * x ^ k.1 * y ^ k.2) (fun k h => by rw [h]; simp)).symm
  have hterm : ∀ t ∈ lp, x ^ t.2.1 < 10 ^ (k * d + 1) ∧ y ^ t.2.2 < 10 ^ (k * d + 1) ∧ f t.2.1 t.2.2 * x ^ t.2.1 * y ^ t.2.2 ≤ 10 ^ (k + 2 * (k * d + 1)) := by
    intro t ht
    have hb := hd _ _ (hpr.val t ht).1
    have p1 := pow10_mono (pow10_pow (j := t.2.1) lx) (show k * t.2.1 + 1 ≤ k * d + 1 by have := Nat.mul_le_mul_left k hb.1; omega)
    have p2 := pow10_mono (pow10_pow (j := t.2.2) ly) (show k * t.2.2 + 1 ≤ k * d + 1 by have := Nat.mul_le_mul_left k hb.2; omega)
    refine ⟨p1, p2, Nat.le_of_lt ?_⟩
    have := pow10_mul (pow10_mul (lf t.2.1 t.2.2) p1) p2
    exact pow10_mono this (by omega)
  have hsum : ∀ i, (sumL (lp.take i) fun t => f t.2.1 t.2.2 * x ^ t.2.1 * y ^ t.2.2) < 10 ^ (k + 2 * (k * d + 1) + 5) := by
    intro i
    have h3 := sumL_le (l := lp.take i) (F := fun t => f t.2.1 t.2.2 * x ^ t.2.1 * y ^ t.2.2) (c := 10 ^ (k + 2 * (k * d + 1))) fun t ht => (hterm t (List.mem_of_mem_take ht)).2.2
    have h4 : (lp.take i).length * 10 ^ (k + 2 * (k * d + 1)) ≤ 10000 * 10 ^ (k + 2 * (k * d + 1)) := Nat.mul_le_mul_right _ (by rw [List.length_take]; omega)
    have h5 : 0 < 10 ^ (k + 2 * (k * d + 1)) := Nat.pow_pos (by decide)
    rw [show k + 2 * (k * d + 1) + 5 = 5 + (k + 2 * (k * d + 1)) by omega, Nat.pow_add]
    generalize 10 ^ (k + 2 * (k * d + 1)) = z at *
    have : (10 : Nat) ^ 5 = 100000 := by decide
    rw [this]; omega
  refine Sp.enter (n := 39) Tryz.func29 rfl Tryz.ntmps29 rfl ?_
  intro E hE H
  subst hE
  refine Goes.seq (Goes.region ?_)
  refine GoL.stepS rfl rfl (asL rfl ?_)
  refine GoL.nil ?_
  refine Goes.seq (Goes.region ?_)
  refine GoL.stepS rfl rfl (asL rfl ?_)
  refine GoL.nil ?_
  refine Goes.seq (Goes.seq (Goes.region ?_))
  refine GoL.stepS rfl rfl (asI rfl ?_)
  refine GoL.nil ?_
  refine Goes.block ?_
  refine Goes.loopS (7 :: 8 :: 9 :: 10 :: 11 :: 12 :: 13 :: 14 :: 15 :: 16 :: 17 :: 18 :: 19 :: 20 :: 21 :: 22 :: 23 :: 24 :: 25 :: 26 :: 27 :: 28 :: 29 :: 30 :: 31 :: 32 :: 33 :: 34 :: 35 :: 36 :: 37 :: []) (fun (s : Nat × (Option Addr × Nat × Nat) × RO) => [(8, .int .i64 (s.1 : Int)), (7, .slice s.2.1.1 s.2.1.2.1 s.2.1.2.2)]) (fun s w => s.1 ≤ lp.length ∧ E.M.le s.2.2 ∧ RefN s.2.2 (.slice s.2.1.1 s.2.1.2.1 s.2.1.2.2) (sumL (lp.take s.1) fun t => f t.2.1 t.2.2 * x ^ t.2.1 * y ^ t.2.2) ∧ Hp E s.2.2 [] w) (fun s => lp.length - s.1) (0, (none, 0, 0), E.M) ⟨rfl, rfl, trivial⟩ ⟨Nat.zero_le _, RO.le.refl _, .zero _, H⟩ ?_
  clear H
  rintro ⟨i, ⟨sa, sn, sc⟩, M1⟩ f1 w ⟨hi, hM1, hS, H⟩ again
  dsimp only at hi hM1 hS H
  refine Goes.seq (Goes.seq (Goes.region ?_))
  refine GoL.stepS rfl rfl (mvI rfl ?_)
  refine GoL.stepS rfl rfl (mvL rfl ?_)
  refine GoL.stepS rfl rfl (r_lenSlice tt29 rfl ?_)
  refine GoL.stepS rfl rfl (r_lss rfl rfl ?_)
  refine GoL.nil ?_
  refine Goes.cond rfl (fun hc => ?_) (fun hc => ?_)
  · have hin : i < lp.length := by have : (i : Int) < (lp.length : Int) := by simpa using hc
                                   omega
    obtain ⟨⟨tv, ta, tb⟩, ht⟩ : ∃ t, lp[i]? = some t := ⟨lp[i], List.getElem?_eq_getElem hin⟩
    obtain ⟨qb, qo, qcs, qe, qz, rfl, hMq, hc0, hc1, hc2⟩ := RowT.at hp ht
    have hbox := hpr.box _ (List.mem_of_getElem? ht)
    obtain ⟨hg0, hgv⟩ := hpr.val _ (List.mem_of_getElem? ht)
    obtain ⟨p1, p2, p3⟩ := hterm _ (List.mem_of_getElem? ht)
    have hed := hd _ _ hg0
    dsimp only at hc0 hc1 hc2 hbox hg0 hgv p1 p2 p3 hed
    obtain ⟨na, nn, nc, rfl⟩ := hgv.shape
    have htk : lp.take (i + 1) = lp.take i ++ [(.slice na nn nc, ta, tb)] := by rw [List.take_add_one, ht]; rfl
    have hMq1 := hM1 _ _ hMq
    have hkd1 : k * ta ≤ k * d := Nat.mul_le_mul_left k hed.1
    have hkd2 : k * tb ≤ k * d := Nat.mul_le_mul_left k hed.2
    refine Goes.skip (Goes.seq (Goes.block ?_))
    refine Goes.regionD0 mixed (by kernel_rfl) 25 H ?_
    refine Ver.read (v := .slice _ _ _) 0 rfl (by kernel_rfl) (fun M' L' w hM H => mvL rfl ⟨rfl, rfl⟩) ?_
    refine Ver.read (v := .slice _ _ _) 1 rfl (by kernel_rfl) (fun M' L' w hM H => mvL rfl ⟨rfl, rfl⟩) ?_
    refine Ver.read (v := .int _ _) 2 rfl (by kernel_rfl) (fun M' L' w hM H => mvI rfl ⟨rfl, rfl⟩) ?_
    refine Ver.read (v := .pointer _) 3 rfl (by kernel_rfl) (fun M' L' w hM H => r_indexAddrN tt29 tt104 rfl rfl hin ⟨rfl, rfl⟩) ?_
    first | refine Ver.read (v := .pointer _) 4 rfl (by kernel_rfl) (fun M' L' w hM H => r_fieldAddr0 fo104_0 rfl ⟨rfl, rfl⟩) ?_ | refine Ver.read (v := .pointer _) 4 rfl (by kernel_rfl) (fun M' L' w hM H => r_fieldAddr fo104_0 rfl ⟨rfl, rfl⟩) ?_
    refine Ver.read (v := .slice _ _ _) 5 rfl (by kernel_rfl) (fun M' L' w hM H => ldL tt55 rfl (H.ro (hM _ _ hMq1)) hc0 ⟨rfl, rfl⟩) ?_
    refine Ver.read (v := .slice _ _ _) 6 rfl (by kernel_rfl) (fun M' L' w hM H => mvL rfl ⟨rfl, rfl⟩) ?_
    refine Ver.read (v := .slice _ _ _) 7 rfl (by kernel_rfl) (fun M' L' w hM H => mvL rfl ⟨rfl, rfl⟩) ?_
    refine Ver.read (v := .int _ _) 8 rfl (by kernel_rfl) (fun M' L' w hM H => mvI rfl ⟨rfl, rfl⟩) ?_
    refine Ver.read (v := .pointer _) 9 rfl (by kernel_rfl) (fun M' L' w hM H => r_indexAddrN tt29 tt104 rfl rfl hin ⟨rfl, rfl⟩) ?_
    first | refine Ver.read (v := .pointer _) 10 rfl (by kernel_rfl) (fun M' L' w hM H => r_fieldAddr0 fo104_1 rfl ⟨rfl, rfl⟩) ?_ | refine Ver.read (v := .pointer _) 10 rfl (by kernel_rfl) (fun M' L' w hM H => r_fieldAddr fo104_1 rfl ⟨rfl, rfl⟩) ?_
    refine Ver.read (v := .int _ _) 11 rfl (by kernel_rfl) (fun M' L' w hM H => ldI tt3 rfl (H.ro (hM _ _ hMq1)) hc1 ⟨rfl, rfl⟩) ?_
    refine Ver.read (v := .slice _ _ _) 13 rfl (by kernel_rfl) (fun M' L' w hM H => mvL rfl ⟨rfl, rfl⟩) ?_
    refine Ver.read (v := .slice _ _ _) 14 rfl (by kernel_rfl) (fun M' L' w hM H => mvL rfl ⟨rfl, rfl⟩) ?_
    refine Ver.read (v := .int _ _) 15 rfl (by kernel_rfl) (fun M' L' w hM H => mvI rfl ⟨rfl, rfl⟩) ?_
    refine Ver.read (v := .pointer _) 16 rfl (by kernel_rfl) (fun M' L' w hM H => r_indexAddrN tt29 tt104 rfl rfl hin ⟨rfl, rfl⟩) ?_
    first | refine Ver.read (v := .pointer _) 17 rfl (by kernel_rfl) (fun M' L' w hM H => r_fieldAddr0 fo104_2 rfl ⟨rfl, rfl⟩) ?_ | refine Ver.read (v := .pointer _) 17 rfl (by kernel_rfl) (fun M' L' w hM H => r_fieldAddr fo104_2 rfl ⟨rfl, rfl⟩) ?_
    refine Ver.read (v := .int _ _) 18 rfl (by kernel_rfl) (fun M' L' w hM H => ldI tt3 rfl (H.ro (hM _ _ hMq1)) hc2 ⟨rfl, rfl⟩) ?_
    refine Ver.next0 12 (by kernel_rfl) rfl (by kernel_rfl) ?_
    clear H; intro w H
    refine r_call cc79 (rpow_spec (h1.mono hM1) lx (m := ta) (by first | omega | (dsimp only; omega)) (by first | omega | (dsimp only; omega))) H ?_
    clear H; rintro v27 M27 L27 w hM27 ⟨rfl, h27⟩ H
    refine ⟨_, hM27, H, ?_⟩
    refine Ver.next0 19 (by kernel_rfl) rfl (by kernel_rfl) ?_
    clear H; intro w H
    refine r_call cc79 (rpow_spec ((h2.mono hM1).mono hM27) ly (m := tb) (by first | omega | (dsimp only; omega)) (by first | omega | (dsimp only; omega))) H ?_
    clear H; rintro v34 M34 L34 w hM34 ⟨rfl, h34⟩ H
    refine ⟨_, hM34, H, ?_⟩
    refine Ver.next0 20 (by kernel_rfl) rfl (by kernel_rfl) ?_
    clear H; intro w H
    refine r_call cc70 (rmul_spec (h27.mono hM34) h34 p1 p2 (by first | omega | (dsimp only; omega)) (by first | omega | (dsimp only; omega))) H ?_
    clear H; rintro v35 M35 L35 w hM35 ⟨rfl, h35⟩ H
    refine ⟨_, hM35, H, ?_⟩
    refine Ver.next0 21 (by kernel_rfl) rfl (by kernel_rfl) ?_
    clear H; intro w H
    refine r_call cc70 (rmul_spec ((((hgv.mono hM1).mono hM27).mono hM34).mono hM35) h35 (lf ta tb) (pow10_mul p1 p2) (by first | omega | (dsimp only; omega)) (by first | omega | (dsimp only; omega))) H ?_
    clear H; rintro v36 M36 L36 w hM36 ⟨rfl, h36⟩ H
    refine ⟨_, hM36, H, ?_⟩
    refine Ver.bar0 22 (by kernel_rfl) rfl (by kernel_rfl) ?_
    clear H; intro w H
    refine r_call cc69 (radd_spec ((((hS.mono hM27).mono hM34).mono hM35).mono hM36) h36 (hsum i) (pow10_mul (lf ta tb) (pow10_mul p1 p2)) (by first | omega | (dsimp only; omega)) (by first | omega | (dsimp only; omega))) H ?_
    clear H; rintro v37 M37 L37 w hM37 ⟨rfl, a37, n37, c37, rfl, h37⟩ H
    refine ⟨_, _, hM37, H, ?_⟩
    refine Ver.bar0 23 (by kernel_rfl) rfl (by kernel_rfl) ?_
    clear H; intro w H
    refine asL rfl ?_
    refine ⟨_, _, RO.le.refl _, H, ?_⟩
    refine Ver.fin0 (by kernel_rfl) ?_
    clear H; intro w H
    refine Goes.inBlock (Goes.region ?_)
    refine GoL.stepS rfl rfl (mvI rfl ?_)
    first | refine GoL.stepS rfl rfl (r_addI rfl rfl (by first | omega | (dsimp only; omega)) (by first | omega | (dsimp only; omega)) ?_) | refine GoL.stepS rfl rfl (r_add rfl rfl ?_)
    refine GoL.stepS rfl rfl (asI rfl ?_)
    refine GoL.nil ?_
    refine again (i + 1, (a37, n37, c37), M37) _ _ ⟨rfl, rfl, trivial⟩ (.of_strip (by kernel_rfl)) ⟨by first | omega | (dsimp only; omega), hM1.trans (hM27.trans (hM34.trans (hM35.trans (hM36.trans hM37)))), ?_, H⟩ (by first | omega | (dsimp only; omega))
    dsimp only
    rw [htk, sumL_snoc, Nat.mul_assoc]
    exact ⟨_, _, _, rfl, h37⟩
  · have hin : i = lp.length := by have : ¬ (i : Int) < (lp.length : Int) := by simpa using hc
                                   omega
    subst hin
    rw [List.take_length] at hS
    refine Goes.exit rfl (Goes.seq (Goes.region ?_))
    refine GoL.stepS rfl rfl (mvL rfl ?_)
    refine GoL.stepS rfl rfl (asL rfl ?_)
    refine GoL.nil ?_
    exact Goes.ret (ret1 (v := .slice _ _ _) rfl rfl rfl H.nil ⟨rfl, by rw [hev]; exact hS⟩)

end Go.Proofs.YtlcpdkckldlceaaGreatDoor
namespace Go.Proofs.YtlcpdkckldlceaaGreatDoor
open Go.Sx Go.Nat32 Go.Dec Go.PolyL Go.Lib
attribute [local irreducible] pt sl itc
set_option maxRecDepth 100000
set_option linter.unusedVariables false
set_option linter.unusedSimpArgs false

theorem rdigits_spec {M : RO} {n : Nat} (hn : n ≤ 2048) :
    Sp Tryz.prog 95 [.int .i64 (n : Int)] M [] fun r _ L' => L' = [] ∧ r = st (decDigits n) := by
  refine Sp.enter (n := 7) Tryz.func95 rfl Tryz.ntmps95 rfl ?_
  intro E hE H
  subst hE
  refine Goes.seq (Goes.region ?_)
  refine GoL.stepS rfl rfl (asS rfl ?_)
  refine GoL.nil ?_
  refine Goes.seq (Goes.region ?_)
  refine GoL.stepS rfl rfl (mvI rfl ?_)
  first | refine GoL.stepS rfl rfl (r_cv_u64 tt3 tt51 rfl (by first | omega | (dsimp only; omega)) (by first | omega | (dsimp only; omega)) ?_) | refine GoL.stepS rfl rfl (r_convInt tt3 tt51 rfl ?_)
  refine GoL.stepS rfl rfl (r_call cc30 (rof_spec (x := n) (by first | omega | (dsimp only; omega))) H ?_); clear H; rintro v5 M5 L5 w hM5 ⟨rfl, h5⟩ H
  refine GoL.stepS rfl rfl (r_call cc28 (rtext_spec h5 (k := 20) (by first | omega | (dsimp only; omega)) (by first | omega | (dsimp only; omega))) H ?_); clear H; rintro v6 M6 L6 w hM6 ⟨rfl, rfl⟩ H
  refine GoL.stepS rfl rfl (asS rfl ?_)
  refine GoL.nil ?_
  exact Goes.ret (ret1 (v := .string _) rfl rfl rfl H.nil ⟨rfl, rfl⟩)

theorem rptext_spec {M : RO} {u : Value} {f : Nat → Nat → Nat} {m k : Nat} (hu : RefPm M u f m) (hm : m ≤ 100000) (lf : ∀ a b, f a b < 10 ^ k) (hk : k ≤ 900000) :
    Sp Tryz.prog 65 [u] M [] fun r _ L' => L' = [] ∧ ∃ ks : List (Nat × Nat), ks.Pairwise kl ∧ (∀ k, k ∈ ks ↔ f k.1 k.2 ≠ 0) ∧ r = st (textK f ks) := by
  obtain ⟨pa, pc, lp, rfl, hpc, hp, hpr, hpm⟩ := hu
  have hks1 : (lp.map (·.2)).Pairwise kl := List.pairwise_map.2 hpr.asc
  have hks2 : ∀ k, k ∈ lp.map (·.2) ↔ f k.1 k.2 ≠ 0 := by
    intro k
    constructor
    · intro hk
      obtain ⟨t, ht, rfl⟩ := List.mem_map.1 hk
      exact (hpr.val t ht).1
    · intro h0
      obtain ⟨t, ht, he⟩ := hpr.all _ _ h0
      exact List.mem_map.2 ⟨t, ht, he⟩
  refine Sp.enter (n := 57) Tryz.func65 rfl Tryz.ntmps65 rfl ?_
  intro E hE H
  subst hE
  refine Goes.seq (Goes.region ?_)
  refine GoL.stepS rfl rfl (asS rfl ?_)
  refine GoL.nil ?_
  refine Goes.seq (Goes.seq (Goes.region ?_))
  refine GoL.stepS rfl rfl (mvL rfl ?_)
  refine GoL.stepS rfl rfl (r_lenSlice tt29 rfl ?_)
  refine GoL.stepS rfl rfl (r_eql rfl rfl ?_)
  refine GoL.nil ?_
  refine Goes.cond rfl (fun hc => ?_) (fun hc => ?_)
  · have h0 : lp = [] := List.eq_nil_of_length_eq_zero (by simpa using hc)
    subst h0
    refine Goes.seq (Goes.region ?_)
    refine GoL.stepS rfl rfl (asS rfl ?_)
    refine GoL.nil ?_
    exact Goes.ret (ret1 (v := .string _) rfl rfl rfl H.nil ⟨rfl, [], .nil, hks2, rfl⟩)
  · have h0 : lp ≠ [] := by intro h; subst h; simp at hc
    refine Goes.skip (Goes.seq (Goes.region ?_))
    refine GoL.stepS rfl rfl (asS rfl ?_)
    refine GoL.nil ?_
    refine Goes.seq (Goes.seq (Goes.region ?_))
    refine GoL.stepS rfl rfl (asI rfl ?_)
    refine GoL.nil ?_
    refine Goes.block ?_
    refine Goes.loopS (3 :: 4 :: 8 :: 9 :: 10 :: 11 :: 12 :: 13 :: 14 :: 15 :: 16 :: 17 :: 18 :: 19 :: 20 :: 21 :: 22 :: 23 :: 24 :: 25 :: 26 :: 27 :: 28 :: 29 :: 30 :: 31 :: 32 :: 33 :: 34 :: 35 :: 36 :: 37 :: 38 :: 39 :: 40 :: 41 :: 42 :: 43 :: 44 :: 45 :: 46 :: 47 :: 48 :: 49 :: 50 :: 51 :: 52 :: 53 :: 54 :: 55 :: []) (fun (i : Nat) => [(4, .int .i64 (i : Int)), (3, st (termsL f ((lp.take i).map (·.2))))]) (fun i w => i ≤ lp.length ∧ ∃ M', E.M.le M' ∧ Hp E M' [] w) (fun i => lp.length - i) 0 ⟨rfl, rfl, trivial⟩ ⟨Nat.zero_le _, _, RO.le.refl _, H⟩ ?_
    clear H
    rintro i f1 w ⟨hi, M1, hM1, H⟩ again
    have hlen : (termsL f ((lp.take i).map (·.2))).length ≤ 100000 * (k + 17 + 3) := by
      have := join_len (l := ((lp.take i).map (·.2)).map fun k => termL (f k.1 k.2) k.1 k.2) (sep := plusL) (m := k + 17) (fun x hx => by
        obtain ⟨q, hq, rfl⟩ := List.mem_map.1 hx
        obtain ⟨t, ht, rfl⟩ := List.mem_map.1 hq
        have hb := hpr.box t (List.mem_of_mem_take ht)
        exact termL_len (lf _ _) (by omega) (by omega))
      refine Nat.le_trans this (Nat.mul_le_mul_right _ ?_)
      simp; omega
    refine Goes.seq (Goes.seq (Goes.region ?_))
    refine GoL.stepS rfl rfl (mvI rfl ?_)
    refine GoL.stepS rfl rfl (mvL rfl ?_)
    refine GoL.stepS rfl rfl (r_lenSlice tt29 rfl ?_)
    refine GoL.stepS rfl rfl (r_lss rfl rfl ?_)
    refine GoL.nil ?_
    refine Goes.cond rfl (fun hc2 => ?_) (fun hc2 => ?_)
    · have hin : i < lp.length := by have : (i : Int) < (lp.length : Int) := by simpa using hc2
                                     omega
      obtain ⟨⟨tv, ta, tb⟩, ht⟩ : ∃ t, lp[i]? = some t := ⟨lp[i], List.getElem?_eq_getElem hin⟩
      obtain ⟨qb, qo, qcs, qe, qz, rfl, hMq, hc0, hc1, hc2⟩ := RowT.at hp ht
      have hbox := hpr.box _ (List.mem_of_getElem? ht)
      obtain ⟨hg0, hgv⟩ := hpr.val _ (List.mem_of_getElem? ht)
      dsimp only at hc0 hc1 hc2 hbox hg0 hgv
      obtain ⟨na, nn, nc, rfl⟩ := hgv.shape
      have htk : lp.take (i + 1) = lp.take i ++ [(.slice na nn nc, ta, tb)] := by rw [List.take_add_one, ht]; rfl
      have hd1 := decDigits_len (lf ta tb)
      have hd2 := pw_len (c := 120) (n := ta) (k := 4) (by omega)
      have hd3 := pw_len (c := 121) (n := tb) (k := 4) (by omega)
      have hd4 := decDigits_len (x := ta) (k := 4) (by omega)
      have hd5 := decDigits_len (x := tb) (k := 4) (by omega)
      refine Goes.skip (Goes.seq (Goes.block (Goes.seq (Goes.seq (Goes.region ?_)))))
      refine GoL.stepS rfl rfl (mvI rfl ?_)
      refine GoL.stepS rfl rfl (r_gtr rfl rfl ?_)
      refine GoL.nil ?_
      generalize hs0 : (if i = 0 then [] else termsL f ((lp.take i).map (·.2)) ++ plusL) = s0
      have hs0l : s0.length ≤ 100000 * (k + 17 + 3) + 3 := by
        subst hs0
        split
        · simp
        · rw [List.length_append]; show _ + 3 ≤ _; omega
      refine Goes.cutT [3, 16, 17] [(3, st (termsL f ((lp.take i).map (·.2))))] (fun (_ : Unit) => [(3, st s0)]) (fun _ w => Hp E M1 [] w) ⟨rfl, trivial⟩ ?aft ?cut
      case cut =>
        intro f2 meet
        refine Goes.cond rfl (fun hi0 => ?_) (fun hi0 => ?_)
        · have hi0' : i ≠ 0 := by have : 0 < (i : Int) := by simpa using hi0
                                  omega
          refine Goes.region ?_
          refine GoL.stepS rfl rfl (mvS rfl ?_)
          refine GoL.stepS rfl rfl (r_concat (a := termsL f ((lp.take i).map (·.2))) (b := plusL) rfl rfl (by show _ + 3 ≤ _; omega) ?_)
          refine GoL.stepS rfl rfl (asS rfl ?_)
          refine GoL.nil ?_
          refine meet () _ _ ⟨?_, trivial⟩ (.of_strip (by kernel_rfl)) H
          rw [← hs0, if_neg hi0']; rfl
        · have hi0' : i = 0 := by have : ¬ 0 < (i : Int) := by simpa using hi0
                                  omega
          subst hi0'
          refine Goes.skip ?_
          refine meet () _ _ ⟨?_, trivial⟩ (.of_strip (by kernel_rfl)) H
          rw [← hs0, if_pos rfl]; rfl
      case aft =>
        clear H
        rintro _ f3 w H
        refine Goes.seq (Goes.region ?_)
        refine GoL.stepS rfl rfl (mvS rfl ?_)
        refine GoL.stepS rfl rfl (mvL rfl ?_)
        refine GoL.stepS rfl rfl (mvI rfl ?_)
        refine GoL.stepS rfl rfl (r_indexAddrN tt29 tt104 rfl rfl hin ?_)
        first | refine GoL.stepS rfl rfl (r_fieldAddr0 fo104_0 rfl ?_) | refine GoL.stepS rfl rfl (r_fieldAddr fo104_0 rfl ?_)
        refine GoL.stepS rfl rfl (ldL tt55 rfl (H.ro (hM1 _ _ hMq)) hc0 ?_)
        refine GoL.stepS rfl rfl (r_call cc28 (rtext_spec (hgv.mono hM1) (lf ta tb) (by first | omega | (dsimp only; omega))) H ?_); clear H; rintro v24 M24 L24 w hM24 ⟨rfl, rfl⟩ H
        refine GoL.stepS rfl rfl (r_concat (a := s0) (b := decDigits (f ta tb)) rfl rfl (by first | omega | (dsimp only; omega)) ?_)
        refine GoL.stepS rfl rfl (asS rfl ?_)
        refine GoL.nil ?_
        refine Goes.seq (Goes.seq (Goes.region ?_))
        refine GoL.stepS rfl rfl (mvL rfl ?_)
        refine GoL.stepS rfl rfl (mvI rfl ?_)
        refine GoL.stepS rfl rfl (r_indexAddrN tt29 tt104 rfl rfl hin ?_)
        first | refine GoL.stepS rfl rfl (r_fieldAddr0 fo104_1 rfl ?_) | refine GoL.stepS rfl rfl (r_fieldAddr fo104_1 rfl ?_)
        refine GoL.stepS rfl rfl (ldI tt3 rfl (H.ro (hM24 _ _ (hM1 _ _ hMq))) hc1 ?_)
        refine GoL.stepS rfl rfl (r_gtr rfl rfl ?_)
        refine GoL.nil ?_
        refine Goes.cutT [3, 32, 33, 34, 35, 36, 37, 38, 39, 40] [(3, st (s0 ++ decDigits (f ta tb)))] (fun (_ : Unit) => [(3, st (s0 ++ decDigits (f ta tb) ++ pw 120 ta))]) (fun _ w => ∃ M', E.M.le M' ∧ Hp E M' [] w) ⟨rfl, trivial⟩ ?aft2 ?cut2
        case cut2 =>
          intro f4 meet
          refine Goes.cond rfl (fun ha0 => ?_) (fun ha0 => ?_)
          · have ha0' : ta ≠ 0 := by have : 0 < (ta : Int) := by simpa using ha0
                                     omega
            refine Goes.region ?_
            refine GoL.stepS rfl rfl (mvS rfl ?_)
            refine GoL.stepS rfl rfl (r_concat (a := s0 ++ decDigits (f ta tb)) (b := [32, 120, 94]) rfl rfl (by rw [List.length_append]; show _ + 3 ≤ _; omega) ?_)
            refine GoL.stepS rfl rfl (mvL rfl ?_)
            refine GoL.stepS rfl rfl (mvI rfl ?_)
            refine GoL.stepS rfl rfl (r_indexAddrN tt29 tt104 rfl rfl hin ?_)
            first | refine GoL.stepS rfl rfl (r_fieldAddr0 fo104_1 rfl ?_) | refine GoL.stepS rfl rfl (r_fieldAddr fo104_1 rfl ?_)
            refine GoL.stepS rfl rfl (ldI tt3 rfl (H.ro (hM24 _ _ (hM1 _ _ hMq))) hc1 ?_)
            refine GoL.stepS rfl rfl (r_call cc95 (rdigits_spec hbox.1) H ?_); clear H; rintro v39 M39 L39 w hM39 ⟨rfl, rfl⟩ H
            refine GoL.stepS rfl rfl (r_concat (a := s0 ++ decDigits (f ta tb) ++ [32, 120, 94]) (b := decDigits ta) rfl rfl (by rw [List.length_append, List.length_append]; show _ + 3 + _ ≤ _; omega) ?_)
            refine GoL.stepS rfl rfl (asS rfl ?_)
            refine GoL.nil ?_
            refine meet () _ _ ⟨?_, trivial⟩ (.of_strip (by kernel_rfl)) ⟨_, hM1.trans (hM24.trans hM39), H⟩
            unfold pw; rw [if_neg ha0']; show _ = st _; rw [← List.append_assoc]; rfl
          · have ha0' : ta = 0 := by have : ¬ 0 < (ta : Int) := by simpa using ha0
                                     omega
            refine Goes.skip ?_
            refine meet () _ _ ⟨?_, trivial⟩ (.of_strip (by kernel_rfl)) ⟨_, hM1.trans hM24, H⟩
            unfold pw; rw [if_pos ha0', List.append_nil]; rfl
        case aft2 =>
          clear H
          rintro _ f5 w ⟨M3, hM3, H⟩
          refine Goes.seq (Goes.region ?_)
          refine GoL.stepS rfl rfl (mvL rfl ?_)
          refine GoL.stepS rfl rfl (mvI rfl ?_)
          refine GoL.stepS rfl rfl (r_indexAddrN tt29 tt104 rfl rfl hin ?_)
          first | refine GoL.stepS rfl rfl (r_fieldAddr0 fo104_2 rfl ?_) | refine GoL.stepS rfl rfl (r_fieldAddr fo104_2 rfl ?_)
          refine GoL.stepS rfl rfl (ldI tt3 rfl (H.ro (hM3 _ _ hMq)) hc2 ?_)
          refine GoL.stepS rfl rfl (r_gtr rfl rfl ?_)
          refine GoL.nil ?_
          refine Goes.cutT [3, 47, 48, 49, 50, 51, 52, 53, 54, 55] [(3, st (s0 ++ decDigits (f ta tb) ++ pw 120 ta))] (fun (_ : Unit) => [(3, st (s0 ++ decDigits (f ta tb) ++ pw 120 ta ++ pw 121 tb))]) (fun _ w => ∃ M', E.M.le M' ∧ Hp E M' [] w) ⟨rfl, trivial⟩ ?aft3 ?cut3
          case cut3 =>
            intro f6 meet
            refine Goes.cond rfl (fun hb0 => ?_) (fun hb0 => ?_)
            · have hb0' : tb ≠ 0 := by have : 0 < (tb : Int) := by simpa using hb0
                                       omega
              refine Goes.region ?_
              refine GoL.stepS rfl rfl (mvS rfl ?_)
              refine GoL.stepS rfl rfl (r_concat (a := s0 ++ decDigits (f ta tb) ++ pw 120 ta) (b := [32, 121, 94]) rfl rfl (by rw [List.length_append, List.length_append]; show _ + 3 ≤ _; omega) ?_)
              refine GoL.stepS rfl rfl (mvL rfl ?_)
              refine GoL.stepS rfl rfl (mvI rfl ?_)
              refine GoL.stepS rfl rfl (r_indexAddrN tt29 tt104 rfl rfl hin ?_)
              first | refine GoL.stepS rfl rfl (r_fieldAddr0 fo104_2 rfl ?_) | refine GoL.stepS rfl rfl (r_fieldAddr fo104_2 rfl ?_)
              refine GoL.stepS rfl rfl (ldI tt3 rfl (H.ro (hM3 _ _ hMq)) hc2 ?_)
              refine GoL.stepS rfl rfl (r_call cc95 (rdigits_spec hbox.2) H ?_); clear H; rintro v54 M54 L54 w hM54 ⟨rfl, rfl⟩ H
              refine GoL.stepS rfl rfl (r_concat (a := s0 ++ decDigits (f ta tb) ++ pw 120 ta ++ [32, 121, 94]) (b := decDigits tb) rfl rfl (by rw [List.length_append, List.length_append, List.length_append]; show _ + 3 + _ ≤ _; omega) ?_)
              refine GoL.stepS rfl rfl (asS rfl ?_)
              refine GoL.nil ?_
              refine meet () _ _ ⟨?_, trivial⟩ (.of_strip (by kernel_rfl)) ⟨_, hM3.trans hM54, H⟩
              unfold pw; rw [if_neg hb0']; show _ = st _; rw [← List.append_assoc]; rfl
            · have hb0' : tb = 0 := by have : ¬ 0 < (tb : Int) := by simpa using hb0
                                       omega
              refine Goes.skip ?_
              refine meet () _ _ ⟨?_, trivial⟩ (.of_strip (by kernel_rfl)) ⟨_, hM3, H⟩
              unfold pw; rw [if_pos hb0', List.append_nil]; rfl
          case aft3 =>
            clear H
            rintro _ f7 w ⟨M4, hM4, H⟩
            refine Goes.inBlock (Goes.region ?_)
            refine GoL.stepS rfl rfl (mvI rfl ?_)
            first | refine GoL.stepS rfl rfl (r_addI rfl rfl (by first | omega | (dsimp only; omega)) (by first | omega | (dsimp only; omega)) ?_) | refine GoL.stepS rfl rfl (r_add rfl rfl ?_)
            refine GoL.stepS rfl rfl (asI rfl ?_)
            refine GoL.nil ?_
            have hst : termsL f ((lp.take (i + 1)).map (·.2)) = s0 ++ decDigits (f ta tb) ++ pw 120 ta ++ pw 121 tb := by
              have e1 : s0 ++ decDigits (f ta tb) ++ pw 120 ta ++ pw 121 tb = s0 ++ termL (f ta tb) ta tb := by unfold termL; simp only [List.append_assoc]
              rw [e1, htk, List.map_append, List.map_singleton]
              unfold termsL
              rw [List.map_append, List.map_singleton, ← hs0]
              by_cases hi0 : i = 0
              · subst hi0
                rw [if_pos rfl]; simp [join_one]
              · rw [if_neg hi0, join_snoc]
                · rfl
                · intro h
                  rcases (by simpa using h : i = 0 ∨ lp = []) with h | h
                  · exact hi0 h
                  · exact h0 h
            refine again (i + 1) _ _ ⟨rfl, ?_, trivial⟩ (.of_strip (by kernel_rfl)) ⟨by omega, _, hM4, H⟩ (by omega)
            rw [hst]; rfl
    · have hin : i = lp.length := by have : ¬ (i : Int) < (lp.length : Int) := by simpa using hc2
                                     omega
      subst hin
      refine Goes.exit rfl (Goes.seq (Goes.region ?_))
      refine GoL.stepS rfl rfl (mvS rfl ?_)
      refine GoL.stepS rfl rfl (asS rfl ?_)
      refine GoL.nil ?_
      refine Goes.ret (ret1 (v := .string _) rfl rfl rfl H.nil ⟨rfl, _, hks1, hks2, ?_⟩)
      rw [List.take_length, textK, if_neg (by simpa using h0)]; rfl

end Go.Proofs.YtlcpdkckldlceaaGreatDoor
namespace Go.Proofs.YtlcpdkckldlceaaGreatDoor
open Go.Sx Go.Nat32 Go.Dec Go.PolyL
attribute [local irreducible] pt sl itc
set_option maxRecDepth 100000
set_option linter.unusedVariables false
set_option linter.unusedSimpArgs false
set_option maxHeartbeats 1000000

/-- The product where D of the left's terms are through and of the next those with D2. -/
def partK (f g : Nat → Nat → Nat) (esg D : List (Nat × Nat)) (s : Nat × Nat) (D2 : List (Nat × Nat)) : Nat → Nat → Nat := fun a b =>
  if a ≤ 2048 ∧ b ≤ 2048 then sumL D (fun e => sumL esg fun e2 => pr f g a b e e2) + sumL D2 (fun e2 => pr f g a b s e2) else 0
theorem partK_nil (f g : Nat → Nat → Nat) (esg : List (Nat × Nat)) (s : Nat × Nat) : partK f g esg [] s [] = fun _ _ => 0 := by
  funext a b; simp [partK, sumL]
theorem partK_next (f g : Nat → Nat → Nat) (esg D : List (Nat × Nat)) (e s : Nat × Nat) : partK f g esg D e esg = partK f g esg (D ++ [e]) s [] := by
  funext a b
  unfold partK
  by_cases hab : a ≤ 2048 ∧ b ≤ 2048
  · rw [if_pos hab, if_pos hab, sumL_snoc, sumL_nil]; omega
  · rw [if_neg hab, if_neg hab]
theorem partK_step (f g : Nat → Nat → Nat) (esg D D2 : List (Nat × Nat)) (s e2 : Nat × Nat) (h1 : s.1 + e2.1 ≤ 2048) (h2 : s.2 + e2.2 ≤ 2048) :
    (fun a b => partK f g esg D s D2 a b + monoF (f s.1 s.2 * g e2.1 e2.2) (s.1 + e2.1) (s.2 + e2.2) a b) = partK f g esg D s (D2 ++ [e2]) := by
  funext a b
  unfold monoF upd
  by_cases hab : a = s.1 + e2.1 ∧ b = s.2 + e2.2
  · obtain ⟨rfl, rfl⟩ := hab
    rw [if_pos ⟨rfl, rfl⟩]
    unfold partK
    rw [if_pos ⟨h1, h2⟩, if_pos ⟨h1, h2⟩, sumL_snoc]
    have : pr f g (s.1 + e2.1) (s.2 + e2.2) s e2 = f s.1 s.2 * g e2.1 e2.2 := by simp [pr]
    rw [this]; omega
  · rw [if_neg hab]
    unfold partK
    have : pr f g a b s e2 = 0 := by
      unfold pr; rw [if_neg]; rintro ⟨rfl, rfl⟩; exact hab ⟨rfl, rfl⟩
    rw [sumL_snoc, this]; simp [zeroF]
theorem partK_skip (f g : Nat → Nat → Nat) (esg D D2 : List (Nat × Nat)) (s e2 : Nat × Nat) (h : ¬ (s.1 + e2.1 ≤ 2048 ∧ s.2 + e2.2 ≤ 2048)) : partK f g esg D s D2 = partK f g esg D s (D2 ++ [e2]) := by
  funext a b
  unfold partK
  by_cases hab : a ≤ 2048 ∧ b ≤ 2048
  · have : pr f g a b s e2 = 0 := by
      unfold pr; rw [if_neg]; rintro ⟨rfl, rfl⟩; exact h hab
    rw [if_pos hab, if_pos hab, sumL_snoc, this]; omega
  · rw [if_neg hab, if_neg hab]
theorem partK_all {M : RO} {f g : Nat → Nat → Nat} {lf lg : List T3} (hf : RepT M f lf) (hg : RepT M g lg) (s : Nat × Nat) : partK f g (lg.map (·.2)) (lf.map (·.2)) s [] = conv f g := by
  funext a b
  unfold partK conv
  by_cases hab : a ≤ 2048 ∧ b ≤ 2048
  · rw [if_pos hab, if_pos hab, sumL_nil, Nat.add_zero]
    have e1 : ∀ s : Nat × Nat, (sumL (lg.map (·.2)) fun e2 => pr f g a b s e2) = sumL box fun t => pr f g a b s t := fun s => by
      rw [sumL_map]
      exact hg.sum (F := fun t => pr f g a b s t) fun k hk => by simp [pr, hk]
    rw [sumL_congr fun e _ => e1 e, sumL_map, hf.sum (F := fun s => sumL box fun t => pr f g a b s t) fun k hk => sumL_zero fun t _ => by simp [pr, hk]]
    rfl
  · rw [if_neg hab, if_neg hab]
theorem partK_lt {f g : Nat → Nat → Nat} {k : Nat} (lf : ∀ a b, f a b < 10 ^ k) (lg : ∀ a b, g a b < 10 ^ k) {esg D D2 : List (Nat × Nat)} (h1 : D.length ≤ 10000) (h2 : esg.length ≤ 10000) (h3 : D2.length ≤ 10000) (s : Nat × Nat) (a b : Nat) : partK f g esg D s D2 a b < 10 ^ (2 * k + 9) := by
  have hc : ∀ s t : Nat × Nat, f s.1 s.2 * g t.1 t.2 ≤ 10 ^ (2 * k) := by
    intro s t
    have := pow10_mul (lf s.1 s.2) (lg t.1 t.2)
    rw [← Nat.two_mul] at this
    exact Nat.le_of_lt this
  unfold partK
  have hp : 0 < 10 ^ (2 * k + 9) := Nat.pow_pos (by decide)
  split
  · have p1 : sumL D (fun e => sumL esg fun e2 => pr f g a b e e2) ≤ D.length * (10000 * 10 ^ (2 * k)) := sumL_le fun e _ => Nat.le_trans (sumL_le fun e2 _ => pr_le hc a b _ _) (Nat.mul_le_mul_right _ h2)
    have p2 : sumL D2 (fun e2 => pr f g a b s e2) ≤ D2.length * 10 ^ (2 * k) := sumL_le fun e2 _ => pr_le hc a b _ _
    have p3 : D.length * (10000 * 10 ^ (2 * k)) ≤ 10000 * (10000 * 10 ^ (2 * k)) := Nat.mul_le_mul_right _ h1
    have p4 : D2.length * 10 ^ (2 * k) ≤ 10000 * 10 ^ (2 * k) := Nat.mul_le_mul_right _ h3
    have p5 : 0 < 10 ^ (2 * k) := Nat.pow_pos (by decide)
    rw [Nat.pow_add, show (10 : Nat) ^ 9 = 1000000000 from rfl]
    generalize 10 ^ (2 * k) = z at *
    omega
  · exact hp

theorem rmul40_spec {M : RO} {u v : Value} {f g : Nat → Nat → Nat} {k m m' : Nat} (hu : RefPm M u f m) (hv : RefPm M v g m') (hk : k ≤ 100000) (lf : ∀ a b, f a b < 10 ^ k) (lg : ∀ a b, g a b < 10 ^ k) (hm : m ≤ 800) (hm' : m' ≤ 800) :
    Sp Tryz.prog 21 [u, v] M [] fun r M' L' => L' = [] ∧ RefPm M' r (conv f g) (m * m') := by
  obtain ⟨pa, pc, lp, rfl, hpc, hp, hpr, hpm⟩ := hu
  obtain ⟨qa, qc, lq, rfl, hqc, hq, hqr, hqm⟩ := hv
  refine Sp.enter (n := 68) Tryz.func21 rfl Tryz.ntmps21 rfl ?_
  intro E hE H
  subst hE
  refine Goes.seq (Goes.region ?_)
  refine GoL.stepS rfl rfl (asL rfl ?_)
  refine GoL.nil ?_
  refine Goes.seq (Goes.region ?_)
  refine GoL.stepS rfl rfl (asL rfl ?_)
  refine GoL.nil ?_
  refine Goes.seq (Goes.seq (Goes.region ?_))
  refine GoL.stepS rfl rfl (asI rfl ?_)
  refine GoL.nil ?_
  refine Goes.block ?_
  refine Goes.loopS (5 :: 6 :: 7 :: 8 :: 9 :: 10 :: 11 :: 12 :: 13 :: 14 :: 15 :: 16 :: 17 :: 18 :: 19 :: 20 :: 21 :: 22 :: 23 :: 24 :: 25 :: 26 :: 27 :: 28 :: 29 :: 30 :: 31 :: 32 :: 33 :: 34 :: 35 :: 36 :: 37 :: 38 :: 39 :: 40 :: 41 :: 42 :: 43 :: 44 :: 45 :: 46 :: 47 :: 48 :: 49 :: 50 :: 51 :: 52 :: 53 :: 54 :: 55 :: 56 :: 57 :: 58 :: 59 :: 60 :: 61 :: 62 :: 63 :: 64 :: 65 :: 66 :: []) (fun (s : Nat × (Option Addr × Nat × Nat) × RO × List HProp) => [(6, .int .i64 (s.1 : Int)), (5, .slice s.2.1.1 s.2.1.2.1 s.2.1.2.2)]) (fun s w => s.1 ≤ lp.length ∧ E.M.le s.2.2.1 ∧ RefPm s.2.2.1 (.slice s.2.1.1 s.2.1.2.1 s.2.1.2.2) (partK f g (lq.map (·.2)) ((lp.take s.1).map (·.2)) (0, 0) []) (s.1 * lq.length) ∧ Hp E s.2.2.1 s.2.2.2 w) (fun s => lp.length - s.1) (0, (none, 0, 0), E.M, []) ⟨rfl, rfl, trivial⟩ ⟨Nat.zero_le _, RO.le.refl _, by rw [List.take_zero, List.map_nil, partK_nil]; exact (Nat.zero_mul _).symm ▸ .zero _, H⟩ ?_
  clear H
  rintro ⟨i, ⟨sa, sn, sc⟩, M1, L1⟩ f1 w ⟨hi, hM1, hS, H⟩ again
  dsimp only at hi hM1 hS H
  refine Goes.seq (Goes.seq (Goes.region ?_))
  refine GoL.stepS rfl rfl (mvI rfl ?_)
  refine GoL.stepS rfl rfl (mvL rfl ?_)
  refine GoL.stepS rfl rfl (r_lenSlice tt29 rfl ?_)
  refine GoL.stepS rfl rfl (r_lss rfl rfl ?_)
  refine GoL.nil ?_
  refine Goes.cond rfl (fun hc => ?_) (fun hc => ?_)
  · have hin : i < lp.length := by have : (i : Int) < (lp.length : Int) := by simpa using hc
                                   omega
    obtain ⟨⟨tv, ta, tb⟩, ht⟩ : ∃ t, lp[i]? = some t := ⟨lp[i], List.getElem?_eq_getElem hin⟩
    obtain ⟨qb, qo, qcs, qe, qz, rfl, hMq, hc0, hc1, hc2⟩ := RowT.at hp ht
    have hbox := hpr.box _ (List.mem_of_getElem? ht)
    obtain ⟨hg0, hgv⟩ := hpr.val _ (List.mem_of_getElem? ht)
    dsimp only at hc0 hc1 hc2 hbox hg0 hgv
    obtain ⟨na, nn, nc, rfl⟩ := hgv.shape
    have htk : lp.take (i + 1) = lp.take i ++ [(.slice na nn nc, ta, tb)] := by rw [List.take_add_one, ht]; rfl
    refine Goes.skip (Goes.seq (Goes.block (Goes.seq (Goes.region ?_))))
    refine GoL.stepS rfl rfl (asI rfl ?_)
    refine GoL.nil ?_
    refine Goes.block ?_
    refine Goes.loopS (5 :: 7 :: 8 :: 15 :: 16 :: 17 :: 18 :: 19 :: 20 :: 21 :: 22 :: 23 :: 24 :: 25 :: 26 :: 27 :: 28 :: 29 :: 30 :: 31 :: 32 :: 33 :: 34 :: 35 :: 36 :: 37 :: 38 :: 39 :: 40 :: 41 :: 42 :: 43 :: 44 :: 45 :: 46 :: 47 :: 48 :: 49 :: 50 :: 51 :: 52 :: 53 :: 54 :: 55 :: 56 :: 57 :: 58 :: 59 :: 60 :: 61 :: 62 :: 63 :: 64 :: 65 :: 66 :: []) (fun (s : Nat × (Option Addr × Nat × Nat) × RO × List HProp) => [(7, .int .i64 (s.1 : Int)), (5, .slice s.2.1.1 s.2.1.2.1 s.2.1.2.2)]) (fun s w => s.1 ≤ lq.length ∧ E.M.le s.2.2.1 ∧ RefPm s.2.2.1 (.slice s.2.1.1 s.2.1.2.1 s.2.1.2.2) (partK f g (lq.map (·.2)) ((lp.take i).map (·.2)) (ta, tb) ((lq.take s.1).map (·.2))) (i * lq.length + s.1) ∧ Hp E s.2.2.1 s.2.2.2 w) (fun s => lq.length - s.1) (0, (sa, sn, sc), M1, L1) ⟨rfl, rfl, trivial⟩ ⟨Nat.zero_le _, hM1, ?_, H⟩ ?_
    · have : partK f g (lq.map (·.2)) ((lp.take i).map (·.2)) (ta, tb) ((lq.take 0).map (·.2)) = partK f g (lq.map (·.2)) ((lp.take i).map (·.2)) (0, 0) [] := by
        funext a b; simp [partK, sumL_nil]
      dsimp only
      rw [this]; exact hS
    clear H hS hM1
    rintro ⟨j, ⟨sa, sn, sc⟩, M2, L2⟩ f2 w ⟨hj, hM2, hS, H⟩ again2
    dsimp only at hj hM2 hS H
    refine Goes.seq (Goes.seq (Goes.region ?_))
    refine GoL.stepS rfl rfl (mvI rfl ?_)
    refine GoL.stepS rfl rfl (mvL rfl ?_)
    refine GoL.stepS rfl rfl (r_lenSlice tt29 rfl ?_)
    refine GoL.stepS rfl rfl (r_lss rfl rfl ?_)
    refine GoL.nil ?_
    refine Goes.cond rfl (fun hd => ?_) (fun hd => ?_)
    · have hjn : j < lq.length := by have : (j : Int) < (lq.length : Int) := by simpa using hd
                                     omega
      obtain ⟨⟨uv1, ua, ub⟩, hu1⟩ : ∃ t, lq[j]? = some t := ⟨lq[j], List.getElem?_eq_getElem hjn⟩
      obtain ⟨rb, ro, rcs, re, rz, rfl, hMr, hd0, hd1, hd2⟩ := RowT.at hq hu1
      have hbox2 := hqr.box _ (List.mem_of_getElem? hu1)
      obtain ⟨hh0, hhv⟩ := hqr.val _ (List.mem_of_getElem? hu1)
      dsimp only at hd0 hd1 hd2 hbox2 hh0 hhv
      obtain ⟨ma, mn, mc, rfl⟩ := hhv.shape
      have hjk : lq.take (j + 1) = lq.take j ++ [(.slice ma mn mc, ua, ub)] := by rw [List.take_add_one, hu1]; rfl
      have hij : i * lq.length + j + 1 ≤ 800 * 800 := by
        have h5 : (i + 1) * lq.length ≤ 800 * 800 := Nat.mul_le_mul (by omega) (by omega)
        rw [Nat.succ_mul] at h5; omega
      have hstep := partK_step f g (lq.map (·.2)) ((lp.take i).map (·.2)) ((lq.take j).map (·.2)) (ta, tb) (ua, ub)
      have hskip := partK_skip f g (lq.map (·.2)) ((lp.take i).map (·.2)) ((lq.take j).map (·.2)) (ta, tb) (ua, ub)
      have hjm : (lq.take j).map (·.2) ++ [(ua, ub)] = (lq.take (j + 1)).map (·.2) := by rw [hjk, List.map_append, List.map_singleton]
      rw [hjm] at hstep hskip
      dsimp only at hstep hskip
      have hlt := partK_lt (k := k) lf lg (esg := lq.map (·.2)) (D := (lp.take i).map (·.2)) (D2 := (lq.take (j + 1)).map (·.2)) (by simp; omega) (by simp; omega) (by simp; omega) (ta, tb)
      refine Goes.skip (Goes.seq (Goes.block (Goes.seq ?_)))
      refine Goes.regionDX mixed (by kernel_rfl) 37 H ?_
      refine Ver.read (v := .slice _ _ _) 0 rfl (by kernel_rfl) (fun M' L' w hM H => mvL rfl ⟨rfl, rfl⟩) ?_
      refine Ver.read (v := .int _ _) 1 rfl (by kernel_rfl) (fun M' L' w hM H => mvI rfl ⟨rfl, rfl⟩) ?_
      refine Ver.read (v := .pointer _) 2 rfl (by kernel_rfl) (fun M' L' w hM H => r_indexAddrN tt29 tt104 rfl rfl hin ⟨rfl, rfl⟩) ?_
      first | refine Ver.read (v := .pointer _) 3 rfl (by kernel_rfl) (fun M' L' w hM H => r_fieldAddr0 fo104_0 rfl ⟨rfl, rfl⟩) ?_ | refine Ver.read (v := .pointer _) 3 rfl (by kernel_rfl) (fun M' L' w hM H => r_fieldAddr fo104_0 rfl ⟨rfl, rfl⟩) ?_
      refine Ver.read (v := .slice _ _ _) 4 rfl (by kernel_rfl) (fun M' L' w hM H => ldL tt55 rfl (H.ro (hM _ _ (hM2 _ _ hMq))) hc0 ⟨rfl, rfl⟩) ?_
      refine Ver.read (v := .slice _ _ _) 5 rfl (by kernel_rfl) (fun M' L' w hM H => mvL rfl ⟨rfl, rfl⟩) ?_
      refine Ver.read (v := .int _ _) 6 rfl (by kernel_rfl) (fun M' L' w hM H => mvI rfl ⟨rfl, rfl⟩) ?_
      refine Ver.read (v := .pointer _) 7 rfl (by kernel_rfl) (fun M' L' w hM H => r_indexAddrN tt29 tt104 rfl rfl hjn ⟨rfl, rfl⟩) ?_
      first | refine Ver.read (v := .pointer _) 8 rfl (by kernel_rfl) (fun M' L' w hM H => r_fieldAddr0 fo104_0 rfl ⟨rfl, rfl⟩) ?_ | refine Ver.read (v := .pointer _) 8 rfl (by kernel_rfl) (fun M' L' w hM H => r_fieldAddr fo104_0 rfl ⟨rfl, rfl⟩) ?_
      refine Ver.read (v := .slice _ _ _) 9 rfl (by kernel_rfl) (fun M' L' w hM H => ldL tt55 rfl (H.ro (hM _ _ (hM2 _ _ hMr))) hd0 ⟨rfl, rfl⟩) ?_
      refine Ver.read (v := .slice _ _ _) 11 rfl (by kernel_rfl) (fun M' L' w hM H => mvL rfl ⟨rfl, rfl⟩) ?_
      refine Ver.read (v := .int _ _) 12 rfl (by kernel_rfl) (fun M' L' w hM H => mvI rfl ⟨rfl, rfl⟩) ?_
      refine Ver.read (v := .pointer _) 13 rfl (by kernel_rfl) (fun M' L' w hM H => r_indexAddrN tt29 tt104 rfl rfl hin ⟨rfl, rfl⟩) ?_
      first | refine Ver.read (v := .pointer _) 14 rfl (by kernel_rfl) (fun M' L' w hM H => r_fieldAddr0 fo104_1 rfl ⟨rfl, rfl⟩) ?_ | refine Ver.read (v := .pointer _) 14 rfl (by kernel_rfl) (fun M' L' w hM H => r_fieldAddr fo104_1 rfl ⟨rfl, rfl⟩) ?_
      refine Ver.read (v := .int _ _) 15 rfl (by kernel_rfl) (fun M' L' w hM H => ldI tt3 rfl (H.ro (hM _ _ (hM2 _ _ hMq))) hc1 ⟨rfl, rfl⟩) ?_
      refine Ver.read (v := .slice _ _ _) 16 rfl (by kernel_rfl) (fun M' L' w hM H => mvL rfl ⟨rfl, rfl⟩) ?_
      refine Ver.read (v := .int _ _) 17 rfl (by kernel_rfl) (fun M' L' w hM H => mvI rfl ⟨rfl, rfl⟩) ?_
      refine Ver.read (v := .pointer _) 18 rfl (by kernel_rfl) (fun M' L' w hM H => r_indexAddrN tt29 tt104 rfl rfl hjn ⟨rfl, rfl⟩) ?_
      first | refine Ver.read (v := .pointer _) 19 rfl (by kernel_rfl) (fun M' L' w hM H => r_fieldAddr0 fo104_1 rfl ⟨rfl, rfl⟩) ?_ | refine Ver.read (v := .pointer _) 19 rfl (by kernel_rfl) (fun M' L' w hM H => r_fieldAddr fo104_1 rfl ⟨rfl, rfl⟩) ?_
      refine Ver.read (v := .int _ _) 20 rfl (by kernel_rfl) (fun M' L' w hM H => ldI tt3 rfl (H.ro (hM _ _ (hM2 _ _ hMr))) hd1 ⟨rfl, rfl⟩) ?_
      refine Ver.read (v := .int _ _) 21 rfl (by kernel_rfl) (fun M' L' w hM H => r_addR ((ta + ua : Nat) : Int) rfl rfl (by first | omega | (dsimp only; omega)) (by first | omega | (dsimp only; omega)) (by first | omega | (dsimp only; omega)) ⟨rfl, rfl⟩) ?_
      refine Ver.read (v := .slice _ _ _) 22 rfl (by kernel_rfl) (fun M' L' w hM H => mvL rfl ⟨rfl, rfl⟩) ?_
      refine Ver.read (v := .int _ _) 23 rfl (by kernel_rfl) (fun M' L' w hM H => mvI rfl ⟨rfl, rfl⟩) ?_
      refine Ver.read (v := .pointer _) 24 rfl (by kernel_rfl) (fun M' L' w hM H => r_indexAddrN tt29 tt104 rfl rfl hin ⟨rfl, rfl⟩) ?_
      first | refine Ver.read (v := .pointer _) 25 rfl (by kernel_rfl) (fun M' L' w hM H => r_fieldAddr0 fo104_2 rfl ⟨rfl, rfl⟩) ?_ | refine Ver.read (v := .pointer _) 25 rfl (by kernel_rfl) (fun M' L' w hM H => r_fieldAddr fo104_2 rfl ⟨rfl, rfl⟩) ?_
      refine Ver.read (v := .int _ _) 26 rfl (by kernel_rfl) (fun M' L' w hM H => ldI tt3 rfl (H.ro (hM _ _ (hM2 _ _ hMq))) hc2 ⟨rfl, rfl⟩) ?_
      refine Ver.read (v := .slice _ _ _) 27 rfl (by kernel_rfl) (fun M' L' w hM H => mvL rfl ⟨rfl, rfl⟩) ?_
      refine Ver.read (v := .int _ _) 28 rfl (by kernel_rfl) (fun M' L' w hM H => mvI rfl ⟨rfl, rfl⟩) ?_
      refine Ver.read (v := .pointer _) 29 rfl (by kernel_rfl) (fun M' L' w hM H => r_indexAddrN tt29 tt104 rfl rfl hjn ⟨rfl, rfl⟩) ?_
      first | refine Ver.read (v := .pointer _) 30 rfl (by kernel_rfl) (fun M' L' w hM H => r_fieldAddr0 fo104_2 rfl ⟨rfl, rfl⟩) ?_ | refine Ver.read (v := .pointer _) 30 rfl (by kernel_rfl) (fun M' L' w hM H => r_fieldAddr fo104_2 rfl ⟨rfl, rfl⟩) ?_
      refine Ver.read (v := .int _ _) 31 rfl (by kernel_rfl) (fun M' L' w hM H => ldI tt3 rfl (H.ro (hM _ _ (hM2 _ _ hMr))) hd2 ⟨rfl, rfl⟩) ?_
      refine Ver.read (v := .int _ _) 32 rfl (by kernel_rfl) (fun M' L' w hM H => r_addR ((tb + ub : Nat) : Int) rfl rfl (by first | omega | (dsimp only; omega)) (by first | omega | (dsimp only; omega)) (by first | omega | (dsimp only; omega)) ⟨rfl, rfl⟩) ?_
      refine Ver.nextsX2 10 34 (by kernel_rfl) rfl rfl (by kernel_rfl) (by kernel_rfl) rfl rfl ?_ ?_
      · clear H; intro w H
        refine r_call cc70 (rmul_spec (hgv.mono hM2) (hhv.mono hM2) (lf ta tb) (lg ua ub) (by first | omega | (dsimp only; omega)) (by first | omega | (dsimp only; omega))) H ?_
        clear H; rintro v31 M31 L31 w hM31 ⟨rfl, a31, n31, c31, rfl, h31⟩ H
        refine ⟨_, _, hM31, H, ?_⟩
        refine Ver.read (v := .agg _) 33 rfl (by kernel_rfl) (fun M' L' w hM H => bld (cells := [.slice _ _ _, .int _ _, .int _ _]) tt104 pl104 pz104 rfl (by rfl) ⟨rfl, rfl⟩) ?_
        refine Ver.nextX 34 (by kernel_rfl) rfl (by kernel_rfl) ?_
        clear H; intro w H
        refine r_alloc tt104 H ?_
        clear H; intro b8 w hb8 H
        refine ⟨_, _, RO.le.refl _, H, ?_⟩
        refine Ver.nextX 35 (by kernel_rfl) rfl (by kernel_rfl) ?_
        clear H; intro w H
        refine stA tt104 rfl rfl H (by repeat constructor) rfl rfl (by rfl) ?_
        clear H; intro w H
        refine ⟨_, _, RO.le.refl _, H, ?_⟩
        refine Ver.finX (by kernel_rfl) ?_
        clear H; intro w H
        by_cases hA : ta + ua ≤ 2048
        · by_cases hB : tb + ub ≤ 2048
          · refine Goes.seq (Goes.region ?_)
            first | refine GoL.stepS rfl rfl (r_fieldAddr0 fo104_1 rfl ?_) | refine GoL.stepS rfl rfl (r_fieldAddr fo104_1 rfl ?_)
            refine GoL.stepS rfl rfl (ldI tt3 rfl (H.own (by repeat constructor)) (by rfl) ?_)
            refine GoL.stepS rfl rfl (r_leqT rfl rfl (by first | omega | (dsimp only; omega)) ?_)
            refine GoL.stepS rfl rfl (mvB rfl ?_)
            first | refine GoL.stepYS rfl rfl rfl (r_fieldAddr0 fo104_2 rfl ?_) | refine GoL.stepYS rfl rfl rfl (r_fieldAddr fo104_2 rfl ?_)
            refine GoL.stepYS rfl rfl rfl (ldI tt3 rfl (H.own (by repeat constructor)) (by rfl) ?_)
            refine GoL.stepYS rfl rfl rfl (r_leqT rfl rfl (by first | omega | (dsimp only; omega)) ?_)
            refine GoL.stepS rfl rfl (r_pickT (v := .bool true) rfl rfl ?_)
            refine GoL.nil ?_
            refine Goes.condT rfl (rfl) ?_
            refine Goes.region ?_
            refine GoL.stepS rfl rfl (mvL rfl ?_)
            refine GoL.stepS rfl rfl (ldA tt104 rfl (H.own (by repeat constructor)) rfl (by rfl) ?_)
            refine GoL.stepS rfl rfl (r_bsl (cells := [.slice _ _ _, .int _ _, .int _ _]) tt29 tt104 rfl (by rfl) H ?_); clear H; intro b65 w hb65 H
            obtain ⟨M3, hM65, hle, H⟩ := H.freezeX (i := 0) .head
            have hst := hstep hA hB
            have hx0 : f ta tb * g ua ub ≠ 0 := Nat.mul_ne_zero hg0 hh0
            have hlast : RefPm M3 (.slice (some ⟨b65, 0, none⟩) 1 1) (monoF (f ta tb * g ua ub) (ta + ua) (tb + ub)) 1 :=
              ⟨some ⟨b65, 0, none⟩, 1, [(_, ta + ua, tb + ub)], rfl, Nat.le_refl _, RowT.one hM65, RepT.one ⟨_, _, _, rfl, h31.mono hle⟩ hx0 hA hB, Nat.le_refl _⟩
            refine GoL.stepS rfl rfl (r_call cc19 (radd40_spec ((hS.mono hM31).mono hle) hlast (k := 2 * k + 9) (by first | omega | (dsimp only; omega)) (fun a b => by rw [congrFun (congrFun hst a) b]; exact hlt a b) (by first | omega | (dsimp only; omega))) H ?_); clear H; rintro v66 M66 L66 w hM66 ⟨rfl, h66⟩ H
            rw [hst] at h66
            obtain ⟨a66, n66, c66, rfl⟩ := h66.shape
            refine GoL.stepS rfl rfl (asL rfl ?_)
            refine GoL.nil ?_
            refine Goes.inBlock (Goes.region ?_)
            refine GoL.stepS rfl rfl (mvI rfl ?_)
            first | refine GoL.stepS rfl rfl (r_addI rfl rfl (by first | omega | (dsimp only; omega)) (by first | omega | (dsimp only; omega)) ?_) | refine GoL.stepS rfl rfl (r_add rfl rfl ?_)
            refine GoL.stepS rfl rfl (asI rfl ?_)
            refine GoL.nil ?_
            exact again2 (j + 1, (a66, n66, c66), M66, _) _ _ ⟨rfl, rfl, trivial⟩ (.of_strip (by kernel_rfl)) ⟨by first | omega | (dsimp only; omega), hM2.trans (hM31.trans (hle.trans hM66)), h66, H⟩ (by first | omega | (dsimp only; omega))
          · have hsk := hskip fun h => hB h.2
            refine Goes.seq (Goes.region ?_)
            first | refine GoL.stepS rfl rfl (r_fieldAddr0 fo104_1 rfl ?_) | refine GoL.stepS rfl rfl (r_fieldAddr fo104_1 rfl ?_)
            refine GoL.stepS rfl rfl (ldI tt3 rfl (H.own (by repeat constructor)) (by rfl) ?_)
            refine GoL.stepS rfl rfl (r_leqT rfl rfl (by first | omega | (dsimp only; omega)) ?_)
            refine GoL.stepS rfl rfl (mvB rfl ?_)
            first | refine GoL.stepYS rfl rfl rfl (r_fieldAddr0 fo104_2 rfl ?_) | refine GoL.stepYS rfl rfl rfl (r_fieldAddr fo104_2 rfl ?_)
            refine GoL.stepYS rfl rfl rfl (ldI tt3 rfl (H.own (by repeat constructor)) (by rfl) ?_)
            refine GoL.stepYS rfl rfl rfl (r_leqF rfl rfl (by first | omega | (dsimp only; omega)) ?_)
            refine GoL.stepS rfl rfl (r_pickT (v := .bool false) rfl rfl ?_)
            refine GoL.nil ?_
            refine Goes.condF rfl (rfl) ?_
            refine Goes.skip (Goes.inBlock (Goes.region ?_))
            refine GoL.stepS rfl rfl (mvI rfl ?_)
            first | refine GoL.stepS rfl rfl (r_addI rfl rfl (by first | omega | (dsimp only; omega)) (by first | omega | (dsimp only; omega)) ?_) | refine GoL.stepS rfl rfl (r_add rfl rfl ?_)
            refine GoL.stepS rfl rfl (asI rfl ?_)
            refine GoL.nil ?_
            refine again2 (j + 1, (sa, sn, sc), M31, _) _ _ ⟨rfl, rfl, trivial⟩ (.of_strip (by kernel_rfl)) ⟨by first | omega | (dsimp only; omega), hM2.trans hM31, ?_, H⟩ (by first | omega | (dsimp only; omega))
            dsimp only
            rw [← hsk]
            obtain ⟨a0, c0, l0, e0, e1, e2, e3, e4⟩ := hS.mono hM31
            exact ⟨a0, c0, l0, e0, e1, e2, e3, by omega⟩
        · have hsk := hskip fun h => hA h.1
          refine Goes.seq (Goes.region ?_)
          first | refine GoL.stepS rfl rfl (r_fieldAddr0 fo104_1 rfl ?_) | refine GoL.stepS rfl rfl (r_fieldAddr fo104_1 rfl ?_)
          refine GoL.stepS rfl rfl (ldI tt3 rfl (H.own (by repeat constructor)) (by rfl) ?_)
          refine GoL.stepS rfl rfl (r_leqF rfl rfl (by first | omega | (dsimp only; omega)) ?_)
          refine GoL.stepS rfl rfl (mvB rfl ?_)
          refine GoL.stepNS rfl rfl rfl ?_
          refine GoL.stepNS rfl rfl rfl ?_
          refine GoL.stepNS rfl rfl rfl ?_
          refine GoL.stepS rfl rfl (r_pickF (v := .bool false) rfl rfl ?_)
          refine GoL.nil ?_
          refine Goes.condF rfl (rfl) ?_
          refine Goes.skip (Goes.inBlock (Goes.region ?_))
          refine GoL.stepS rfl rfl (mvI rfl ?_)
          first | refine GoL.stepS rfl rfl (r_addI rfl rfl (by first | omega | (dsimp only; omega)) (by first | omega | (dsimp only; omega)) ?_) | refine GoL.stepS rfl rfl (r_add rfl rfl ?_)
          refine GoL.stepS rfl rfl (asI rfl ?_)
          refine GoL.nil ?_
          refine again2 (j + 1, (sa, sn, sc), M31, _) _ _ ⟨rfl, rfl, trivial⟩ (.of_strip (by kernel_rfl)) ⟨by first | omega | (dsimp only; omega), hM2.trans hM31, ?_, H⟩ (by first | omega | (dsimp only; omega))
          dsimp only
          rw [← hsk]
          obtain ⟨a0, c0, l0, e0, e1, e2, e3, e4⟩ := hS.mono hM31
          exact ⟨a0, c0, l0, e0, e1, e2, e3, by omega⟩
      · clear H; intro w H
        refine r_alloc tt104 H ?_
        clear H; intro b8 w hb8 H
        refine ⟨_, _, RO.le.refl _, H, ?_⟩
        refine Ver.nextX 10 (by kernel_rfl) rfl (by kernel_rfl) ?_
        clear H; intro w H
        refine r_call cc70 (rmul_spec (hgv.mono hM2) (hhv.mono hM2) (lf ta tb) (lg ua ub) (by first | omega | (dsimp only; omega)) (by first | omega | (dsimp only; omega))) H ?_
        clear H; rintro v31 M31 L31 w hM31 ⟨rfl, a31, n31, c31, rfl, h31⟩ H
        refine ⟨_, _, hM31, H, ?_⟩
        refine Ver.read (v := .agg _) 33 rfl (by kernel_rfl) (fun M' L' w hM H => bld (cells := [.slice _ _ _, .int _ _, .int _ _]) tt104 pl104 pz104 rfl (by rfl) ⟨rfl, rfl⟩) ?_
        refine Ver.nextX 35 (by kernel_rfl) rfl (by kernel_rfl) ?_
        clear H; intro w H
        refine stA tt104 rfl rfl H (by repeat constructor) rfl rfl (by rfl) ?_
        clear H; intro w H
        refine ⟨_, _, RO.le.refl _, H, ?_⟩
        refine Ver.finX (by kernel_rfl) ?_
        clear H; intro w H
        by_cases hA : ta + ua ≤ 2048
        · by_cases hB : tb + ub ≤ 2048
          · refine Goes.seq (Goes.region ?_)
            first | refine GoL.stepS rfl rfl (r_fieldAddr0 fo104_1 rfl ?_) | refine GoL.stepS rfl rfl (r_fieldAddr fo104_1 rfl ?_)
            refine GoL.stepS rfl rfl (ldI tt3 rfl (H.own (by repeat constructor)) (by rfl) ?_)
            refine GoL.stepS rfl rfl (r_leqT rfl rfl (by first | omega | (dsimp only; omega)) ?_)
            refine GoL.stepS rfl rfl (mvB rfl ?_)
            first | refine GoL.stepYS rfl rfl rfl (r_fieldAddr0 fo104_2 rfl ?_) | refine GoL.stepYS rfl rfl rfl (r_fieldAddr fo104_2 rfl ?_)
            refine GoL.stepYS rfl rfl rfl (ldI tt3 rfl (H.own (by repeat constructor)) (by rfl) ?_)
            refine GoL.stepYS rfl rfl rfl (r_leqT rfl rfl (by first | omega | (dsimp only; omega)) ?_)
            refine GoL.stepS rfl rfl (r_pickT (v := .bool true) rfl rfl ?_)
            refine GoL.nil ?_
            refine Goes.condT rfl (rfl) ?_
            refine Goes.region ?_
            refine GoL.stepS rfl rfl (mvL rfl ?_)
            refine GoL.stepS rfl rfl (ldA tt104 rfl (H.own (by repeat constructor)) rfl (by rfl) ?_)
            refine GoL.stepS rfl rfl (r_bsl (cells := [.slice _ _ _, .int _ _, .int _ _]) tt29 tt104 rfl (by rfl) H ?_); clear H; intro b65 w hb65 H
            obtain ⟨M3, hM65, hle, H⟩ := H.freezeX (i := 0) .head
            have hst := hstep hA hB
            have hx0 : f ta tb * g ua ub ≠ 0 := Nat.mul_ne_zero hg0 hh0
            have hlast : RefPm M3 (.slice (some ⟨b65, 0, none⟩) 1 1) (monoF (f ta tb * g ua ub) (ta + ua) (tb + ub)) 1 :=
              ⟨some ⟨b65, 0, none⟩, 1, [(_, ta + ua, tb + ub)], rfl, Nat.le_refl _, RowT.one hM65, RepT.one ⟨_, _, _, rfl, h31.mono hle⟩ hx0 hA hB, Nat.le_refl _⟩
            refine GoL.stepS rfl rfl (r_call cc19 (radd40_spec ((hS.mono hM31).mono hle) hlast (k := 2 * k + 9) (by first | omega | (dsimp only; omega)) (fun a b => by rw [congrFun (congrFun hst a) b]; exact hlt a b) (by first | omega | (dsimp only; omega))) H ?_); clear H; rintro v66 M66 L66 w hM66 ⟨rfl, h66⟩ H
            rw [hst] at h66
            obtain ⟨a66, n66, c66, rfl⟩ := h66.shape
            refine GoL.stepS rfl rfl (asL rfl ?_)
            refine GoL.nil ?_
            refine Goes.inBlock (Goes.region ?_)
            refine GoL.stepS rfl rfl (mvI rfl ?_)
            first | refine GoL.stepS rfl rfl (r_addI rfl rfl (by first | omega | (dsimp only; omega)) (by first | omega | (dsimp only; omega)) ?_) | refine GoL.stepS rfl rfl (r_add rfl rfl ?_)
            refine GoL.stepS rfl rfl (asI rfl ?_)
            refine GoL.nil ?_
            exact again2 (j + 1, (a66, n66, c66), M66, _) _ _ ⟨rfl, rfl, trivial⟩ (.of_strip (by kernel_rfl)) ⟨by first | omega | (dsimp only; omega), hM2.trans (hM31.trans (hle.trans hM66)), h66, H⟩ (by first | omega | (dsimp only; omega))
          · have hsk := hskip fun h => hB h.2
            refine Goes.seq (Goes.region ?_)
            first | refine GoL.stepS rfl rfl (r_fieldAddr0 fo104_1 rfl ?_) | refine GoL.stepS rfl rfl (r_fieldAddr fo104_1 rfl ?_)
            refine GoL.stepS rfl rfl (ldI tt3 rfl (H.own (by repeat constructor)) (by rfl) ?_)
            refine GoL.stepS rfl rfl (r_leqT rfl rfl (by first | omega | (dsimp only; omega)) ?_)
            refine GoL.stepS rfl rfl (mvB rfl ?_)
            first | refine GoL.stepYS rfl rfl rfl (r_fieldAddr0 fo104_2 rfl ?_) | refine GoL.stepYS rfl rfl rfl (r_fieldAddr fo104_2 rfl ?_)
            refine GoL.stepYS rfl rfl rfl (ldI tt3 rfl (H.own (by repeat constructor)) (by rfl) ?_)
            refine GoL.stepYS rfl rfl rfl (r_leqF rfl rfl (by first | omega | (dsimp only; omega)) ?_)
            refine GoL.stepS rfl rfl (r_pickT (v := .bool false) rfl rfl ?_)
            refine GoL.nil ?_
            refine Goes.condF rfl (rfl) ?_
            refine Goes.skip (Goes.inBlock (Goes.region ?_))
            refine GoL.stepS rfl rfl (mvI rfl ?_)
            first | refine GoL.stepS rfl rfl (r_addI rfl rfl (by first | omega | (dsimp only; omega)) (by first | omega | (dsimp only; omega)) ?_) | refine GoL.stepS rfl rfl (r_add rfl rfl ?_)
            refine GoL.stepS rfl rfl (asI rfl ?_)
            refine GoL.nil ?_
            refine again2 (j + 1, (sa, sn, sc), M31, _) _ _ ⟨rfl, rfl, trivial⟩ (.of_strip (by kernel_rfl)) ⟨by first | omega | (dsimp only; omega), hM2.trans hM31, ?_, H⟩ (by first | omega | (dsimp only; omega))
            dsimp only
            rw [← hsk]
            obtain ⟨a0, c0, l0, e0, e1, e2, e3, e4⟩ := hS.mono hM31
            exact ⟨a0, c0, l0, e0, e1, e2, e3, by omega⟩
        · have hsk := hskip fun h => hA h.1
          refine Goes.seq (Goes.region ?_)
          first | refine GoL.stepS rfl rfl (r_fieldAddr0 fo104_1 rfl ?_) | refine GoL.stepS rfl rfl (r_fieldAddr fo104_1 rfl ?_)
          refine GoL.stepS rfl rfl (ldI tt3 rfl (H.own (by repeat constructor)) (by rfl) ?_)
          refine GoL.stepS rfl rfl (r_leqF rfl rfl (by first | omega | (dsimp only; omega)) ?_)
          refine GoL.stepS rfl rfl (mvB rfl ?_)
          refine GoL.stepNS rfl rfl rfl ?_
          refine GoL.stepNS rfl rfl rfl ?_
          refine GoL.stepNS rfl rfl rfl ?_
          refine GoL.stepS rfl rfl (r_pickF (v := .bool false) rfl rfl ?_)
          refine GoL.nil ?_
          refine Goes.condF rfl (rfl) ?_
          refine Goes.skip (Goes.inBlock (Goes.region ?_))
          refine GoL.stepS rfl rfl (mvI rfl ?_)
          first | refine GoL.stepS rfl rfl (r_addI rfl rfl (by first | omega | (dsimp only; omega)) (by first | omega | (dsimp only; omega)) ?_) | refine GoL.stepS rfl rfl (r_add rfl rfl ?_)
          refine GoL.stepS rfl rfl (asI rfl ?_)
          refine GoL.nil ?_
          refine again2 (j + 1, (sa, sn, sc), M31, _) _ _ ⟨rfl, rfl, trivial⟩ (.of_strip (by kernel_rfl)) ⟨by first | omega | (dsimp only; omega), hM2.trans hM31, ?_, H⟩ (by first | omega | (dsimp only; omega))
          dsimp only
          rw [← hsk]
          obtain ⟨a0, c0, l0, e0, e1, e2, e3, e4⟩ := hS.mono hM31
          exact ⟨a0, c0, l0, e0, e1, e2, e3, by omega⟩
    · have hjn : j = lq.length := by have : ¬ (j : Int) < (lq.length : Int) := by simpa using hd
                                     omega
      subst hjn
      refine Goes.exit rfl (Goes.inBlock (Goes.region ?_))
      refine GoL.stepS rfl rfl (mvI rfl ?_)
      first | refine GoL.stepS rfl rfl (r_addI rfl rfl (by first | omega | (dsimp only; omega)) (by first | omega | (dsimp only; omega)) ?_) | refine GoL.stepS rfl rfl (r_add rfl rfl ?_)
      refine GoL.stepS rfl rfl (asI rfl ?_)
      refine GoL.nil ?_
      refine again (i + 1, (sa, sn, sc), M2, L2) _ _ ⟨rfl, rfl, trivial⟩ (.of_strip (by kernel_rfl)) ⟨by first | omega | (dsimp only; omega), hM2, ?_, H⟩ (by first | omega | (dsimp only; omega))
      dsimp only
      rw [List.take_length, partK_next] at hS
      rw [htk, List.map_append, List.map_singleton, Nat.succ_mul]
      obtain ⟨a0, c0, l0, e0, e1, e2, e3, e4⟩ := hS
      refine ⟨a0, c0, l0, e0, e1, e2, ?_, e4⟩
      have : partK f g (lq.map (·.2)) ((lp.take i).map (·.2) ++ [(ta, tb)]) (ta, tb) [] = partK f g (lq.map (·.2)) ((lp.take i).map (·.2) ++ [(ta, tb)]) (0, 0) [] := by
        funext a b; simp [partK, sumL_nil]
      first | exact e3 | (rw [← this]; exact e3)
  · have hin : i = lp.length := by have : ¬ (i : Int) < (lp.length : Int) := by simpa using hc
                                   omega
    subst hin
    rw [List.take_length, partK_all hpr hqr] at hS
    refine Goes.exit rfl (Goes.seq (Goes.region ?_))
    refine GoL.stepS rfl rfl (mvL rfl ?_)
    refine GoL.stepS rfl rfl (asL rfl ?_)
    refine GoL.nil ?_
    refine Goes.ret (ret1 (v := .slice _ _ _) rfl rfl rfl H.nil ⟨rfl, ?_⟩)
    obtain ⟨a0, c0, l0, e0, e1, e2, e3, e4⟩ := hS
    exact ⟨a0, c0, l0, e0, e1, e2, e3, Nat.le_trans e4 (Nat.mul_le_mul hpm hqm)⟩

end Go.Proofs.YtlcpdkckldlceaaGreatDoor
namespace Go.Proofs.YtlcpdkckldlceaaGreatDoor
open Go.Sx Go.Nat32 Go.Dec Go.PolyL
attribute [local irreducible] pt sl itc
set_option maxRecDepth 100000
set_option linter.unusedVariables false
set_option linter.unusedSimpArgs false
set_option maxHeartbeats 1000000

/-- The derivative by x. -/
def diffF (f : Nat → Nat → Nat) : Nat → Nat → Nat := fun a b => f (a + 1) b * (a + 1)
def dT (f : Nat → Nat → Nat) (ks : List (Nat × Nat)) : Nat → Nat → Nat := fun a b => sumL ks fun k => if k.1 = a + 1 ∧ k.2 = b then f k.1 k.2 * k.1 else 0
theorem dT_nil (f : Nat → Nat → Nat) : dT f [] = fun _ _ => 0 := rfl
theorem dT_step (f : Nat → Nat → Nat) (ks : List (Nat × Nat)) (a b : Nat) : (fun c d => dT f ks c d + monoF (f (a + 1) b * (a + 1)) a b c d) = dT f (ks ++ [(a + 1, b)]) := by
  funext c d
  unfold dT monoF upd
  rw [sumL_snoc]
  by_cases h : c = a ∧ d = b
  · obtain ⟨rfl, rfl⟩ := h
    simp
  · have : ¬ (a + 1 = c + 1 ∧ b = d) := by omega
    rw [if_neg h, if_neg this]; rfl
theorem dT_skip (f : Nat → Nat → Nat) (ks : List (Nat × Nat)) (b : Nat) : dT f ks = dT f (ks ++ [(0, b)]) := by
  funext c d
  unfold dT
  rw [sumL_snoc, if_neg (by omega)]; rfl
theorem dT_box (f : Nat → Nat → Nat) (hf : ∀ a b, f a b ≠ 0 → a ≤ 2048 ∧ b ≤ 2048) : dT f box = diffF f := by
  funext a b
  unfold dT diffF
  have h1 : (sumL box fun k => if k.1 = a + 1 ∧ k.2 = b then f k.1 k.2 * k.1 else 0) = sumL box fun k => if k = (a + 1, b) then f (a + 1) b * (a + 1) else 0 := by
    refine sumL_congr fun k _ => ?_
    by_cases h : k = (a + 1, b)
    · subst h; simp
    · rw [if_neg h, if_neg]
      rintro ⟨h1, h2⟩; exact h (Prod.ext h1 h2)
  rw [h1, sumL_ite nodup_box]
  split
  · rfl
  · rename_i h
    by_cases h0 : f (a + 1) b = 0
    · rw [h0]; simp
    · exact absurd (mem_box.2 (hf _ _ h0)) h
theorem RepT.boxed {M : RO} {f : Nat → Nat → Nat} {l : List T3} (h : RepT M f l) (a b : Nat) (hab : f a b ≠ 0) : a ≤ 2048 ∧ b ≤ 2048 := by
  obtain ⟨t, ht, he⟩ := h.all a b hab
  have := h.box t ht
  rw [he] at this; exact this
theorem dT_all {M : RO} {f : Nat → Nat → Nat} {l : List T3} (h : RepT M f l) : dT f (l.map (·.2)) = diffF f := by
  rw [← dT_box f h.boxed]
  funext a b
  unfold dT
  rw [sumL_map]
  exact h.sum (F := fun k => if k.1 = a + 1 ∧ k.2 = b then f k.1 k.2 * k.1 else 0) fun k hk => by split <;> simp [hk]
theorem dT_lt {f : Nat → Nat → Nat} {k : Nat} (lf : ∀ a b, f a b < 10 ^ k) {D : List (Nat × Nat)} (h1 : D.length ≤ 100000) (hD : ∀ q ∈ D, q.1 ≤ 2048) (a b : Nat) : dT f D a b < 10 ^ (k + 9) := by
  have p5 : 0 < 10 ^ k := Nat.pow_pos (by decide)
  have p1 : dT f D a b ≤ D.length * (10 ^ k * 2048) := sumL_le fun q hq => by
    split
    · exact Nat.mul_le_mul (Nat.le_of_lt (lf _ _)) (hD q hq)
    · exact Nat.zero_le _
  have p3 : D.length * (10 ^ k * 2048) ≤ 100000 * (10 ^ k * 2048) := Nat.mul_le_mul_right _ h1
  rw [Nat.pow_add, show (10 : Nat) ^ 9 = 1000000000 from rfl]
  generalize 10 ^ k = z at *
  omega

theorem rdiff_spec {M : RO} {u : Value} {f : Nat → Nat → Nat} {k m : Nat} (hu : RefPm M u f m) (hk : k ≤ 100000) (lf : ∀ a b, f a b < 10 ^ k) (hm : m ≤ 100000) :
    Sp Tryz.prog 48 [u] M [] fun r M' L' => L' = [] ∧ RefPm M' r (diffF f) m := by
  obtain ⟨pa, pc, lp, rfl, hpc, hp, hpr, hpm⟩ := hu
  refine Sp.enter (n := 46) Tryz.func48 rfl Tryz.ntmps48 rfl ?_
  intro E hE H
  subst hE
  refine Goes.seq (Goes.region ?_)
  refine GoL.stepS rfl rfl (asL rfl ?_)
  refine GoL.nil ?_
  refine Goes.seq (Goes.region ?_)
  refine GoL.stepS rfl rfl (asL rfl ?_)
  refine GoL.nil ?_
  refine Goes.seq (Goes.seq (Goes.region ?_))
  refine GoL.stepS rfl rfl (asI rfl ?_)
  refine GoL.nil ?_
  refine Goes.block ?_
  refine Goes.loopS (3 :: 4 :: 5 :: 6 :: 7 :: 8 :: 9 :: 10 :: 11 :: 12 :: 13 :: 14 :: 15 :: 16 :: 17 :: 18 :: 19 :: 20 :: 21 :: 22 :: 23 :: 24 :: 25 :: 26 :: 27 :: 28 :: 29 :: 30 :: 31 :: 32 :: 33 :: 34 :: 35 :: 36 :: 37 :: 38 :: 39 :: 40 :: 41 :: 42 :: 43 :: 44 :: []) (fun (s : Nat × (Option Addr × Nat × Nat) × RO × List HProp) => [(4, .int .i64 (s.1 : Int)), (3, .slice s.2.1.1 s.2.1.2.1 s.2.1.2.2)]) (fun s w => s.1 ≤ lp.length ∧ E.M.le s.2.2.1 ∧ RefPm s.2.2.1 (.slice s.2.1.1 s.2.1.2.1 s.2.1.2.2) (dT f ((lp.take s.1).map (·.2))) s.1 ∧ Hp E s.2.2.1 s.2.2.2 w) (fun s => lp.length - s.1) (0, (none, 0, 0), E.M, []) ⟨rfl, rfl, trivial⟩ ⟨Nat.zero_le _, RO.le.refl _, .zero _, H⟩ ?_
  clear H
  rintro ⟨i, ⟨sa, sn, sc⟩, M1, L1⟩ f1 w ⟨hi, hM1, hS, H⟩ again
  dsimp only at hi hM1 hS H
  refine Goes.seq (Goes.seq (Goes.region ?_))
  refine GoL.stepS rfl rfl (mvI rfl ?_)
  refine GoL.stepS rfl rfl (mvL rfl ?_)
  refine GoL.stepS rfl rfl (r_lenSlice tt29 rfl ?_)
  refine GoL.stepS rfl rfl (r_lss rfl rfl ?_)
  refine GoL.nil ?_
  refine Goes.cond rfl (fun hc => ?_) (fun hc => ?_)
  · have hin : i < lp.length := by have : (i : Int) < (lp.length : Int) := by simpa using hc
                                   omega
    obtain ⟨⟨tv, ta, tb⟩, ht⟩ : ∃ t, lp[i]? = some t := ⟨lp[i], List.getElem?_eq_getElem hin⟩
    obtain ⟨qb, qo, qcs, qe, qz, rfl, hMq, hc0, hc1, hc2⟩ := RowT.at hp ht
    have hbox := hpr.box _ (List.mem_of_getElem? ht)
    obtain ⟨hg0, hgv⟩ := hpr.val _ (List.mem_of_getElem? ht)
    dsimp only at hc0 hc1 hc2 hbox hg0 hgv
    obtain ⟨na, nn, nc, rfl⟩ := hgv.shape
    have htk : (lp.take (i + 1)).map (·.2) = (lp.take i).map (·.2) ++ [(ta, tb)] := by rw [List.take_add_one, ht, List.map_append]; rfl
    have hlt := dT_lt lf (D := (lp.take (i + 1)).map (·.2)) (by simp; omega) (fun q hq => by
      obtain ⟨t, ht, rfl⟩ := List.mem_map.1 hq
      exact (hpr.box t (List.mem_of_mem_take ht)).1)
    refine Goes.skip (Goes.seq (Goes.block (Goes.seq (Goes.region ?_))))
    refine GoL.stepS rfl rfl (mvL rfl ?_)
    refine GoL.stepS rfl rfl (mvI rfl ?_)
    refine GoL.stepS rfl rfl (r_indexAddrN tt29 tt104 rfl rfl hin ?_)
    first | refine GoL.stepS rfl rfl (r_fieldAddr0 fo104_1 rfl ?_) | refine GoL.stepS rfl rfl (r_fieldAddr fo104_1 rfl ?_)
    refine GoL.stepS rfl rfl (ldI tt3 rfl (H.ro (hM1 _ _ hMq)) hc1 ?_)
    refine GoL.stepS rfl rfl (r_gtr rfl rfl ?_)
    refine GoL.nil ?_
    refine Goes.cond rfl (fun ha0 => ?_) (fun ha0 => ?_)
    · obtain ⟨a, rfl⟩ : ∃ a, ta = a + 1 := ⟨ta - 1, by have : 0 < (ta : Int) := by simpa using ha0
                                                       omega⟩
      have hst := dT_step f ((lp.take i).map (·.2)) a tb
      rw [← htk] at hst
      have hx0 : f (a + 1) tb * (a + 1) ≠ 0 := Nat.mul_ne_zero hg0 (by omega)
      refine Goes.regionDX mixed (by kernel_rfl) 30 H ?_
      refine Ver.read (v := .slice _ _ _) 0 rfl (by kernel_rfl) (fun M' L' w hM H => mvL rfl ⟨rfl, rfl⟩) ?_
      refine Ver.read (v := .slice _ _ _) 1 rfl (by kernel_rfl) (fun M' L' w hM H => mvL rfl ⟨rfl, rfl⟩) ?_
      refine Ver.read (v := .int _ _) 2 rfl (by kernel_rfl) (fun M' L' w hM H => mvI rfl ⟨rfl, rfl⟩) ?_
      refine Ver.read (v := .pointer _) 3 rfl (by kernel_rfl) (fun M' L' w hM H => r_indexAddrN tt29 tt104 rfl rfl hin ⟨rfl, rfl⟩) ?_
      first | refine Ver.read (v := .pointer _) 4 rfl (by kernel_rfl) (fun M' L' w hM H => r_fieldAddr0 fo104_0 rfl ⟨rfl, rfl⟩) ?_ | refine Ver.read (v := .pointer _) 4 rfl (by kernel_rfl) (fun M' L' w hM H => r_fieldAddr fo104_0 rfl ⟨rfl, rfl⟩) ?_
      refine Ver.read (v := .slice _ _ _) 5 rfl (by kernel_rfl) (fun M' L' w hM H => ldL tt55 rfl (H.ro (hM _ _ (hM1 _ _ hMq))) hc0 ⟨rfl, rfl⟩) ?_
      refine Ver.read (v := .slice _ _ _) 6 rfl (by kernel_rfl) (fun M' L' w hM H => mvL rfl ⟨rfl, rfl⟩) ?_
      refine Ver.read (v := .int _ _) 7 rfl (by kernel_rfl) (fun M' L' w hM H => mvI rfl ⟨rfl, rfl⟩) ?_
      refine Ver.read (v := .pointer _) 8 rfl (by kernel_rfl) (fun M' L' w hM H => r_indexAddrN tt29 tt104 rfl rfl hin ⟨rfl, rfl⟩) ?_
      first | refine Ver.read (v := .pointer _) 9 rfl (by kernel_rfl) (fun M' L' w hM H => r_fieldAddr0 fo104_1 rfl ⟨rfl, rfl⟩) ?_ | refine Ver.read (v := .pointer _) 9 rfl (by kernel_rfl) (fun M' L' w hM H => r_fieldAddr fo104_1 rfl ⟨rfl, rfl⟩) ?_
      refine Ver.read (v := .int _ _) 10 rfl (by kernel_rfl) (fun M' L' w hM H => ldI tt3 rfl (H.ro (hM _ _ (hM1 _ _ hMq))) hc1 ⟨rfl, rfl⟩) ?_
      refine Ver.read (v := .int _ _) 11 rfl (by kernel_rfl) (fun M' L' w hM H => r_cv_u64 tt3 tt51 rfl (by first | omega | (dsimp only; omega)) (by first | omega | (dsimp only; omega)) ⟨rfl, rfl⟩) ?_
      refine Ver.read (v := .slice _ _ _) 14 rfl (by kernel_rfl) (fun M' L' w hM H => mvL rfl ⟨rfl, rfl⟩) ?_
      refine Ver.read (v := .int _ _) 15 rfl (by kernel_rfl) (fun M' L' w hM H => mvI rfl ⟨rfl, rfl⟩) ?_
      refine Ver.read (v := .pointer _) 16 rfl (by kernel_rfl) (fun M' L' w hM H => r_indexAddrN tt29 tt104 rfl rfl hin ⟨rfl, rfl⟩) ?_
      first | refine Ver.read (v := .pointer _) 17 rfl (by kernel_rfl) (fun M' L' w hM H => r_fieldAddr0 fo104_1 rfl ⟨rfl, rfl⟩) ?_ | refine Ver.read (v := .pointer _) 17 rfl (by kernel_rfl) (fun M' L' w hM H => r_fieldAddr fo104_1 rfl ⟨rfl, rfl⟩) ?_
      refine Ver.read (v := .int _ _) 18 rfl (by kernel_rfl) (fun M' L' w hM H => ldI tt3 rfl (H.ro (hM _ _ (hM1 _ _ hMq))) hc1 ⟨rfl, rfl⟩) ?_
      refine Ver.read (v := .int _ _) 19 rfl (by kernel_rfl) (fun M' L' w hM H => r_subR (a : Int) rfl rfl (by first | omega | (dsimp only; omega)) (by first | omega | (dsimp only; omega)) (by first | omega | (dsimp only; omega)) ⟨rfl, rfl⟩) ?_
      refine Ver.read (v := .slice _ _ _) 20 rfl (by kernel_rfl) (fun M' L' w hM H => mvL rfl ⟨rfl, rfl⟩) ?_
      refine Ver.read (v := .int _ _) 21 rfl (by kernel_rfl) (fun M' L' w hM H => mvI rfl ⟨rfl, rfl⟩) ?_
      refine Ver.read (v := .pointer _) 22 rfl (by kernel_rfl) (fun M' L' w hM H => r_indexAddrN tt29 tt104 rfl rfl hin ⟨rfl, rfl⟩) ?_
      first | refine Ver.read (v := .pointer _) 23 rfl (by kernel_rfl) (fun M' L' w hM H => r_fieldAddr0 fo104_2 rfl ⟨rfl, rfl⟩) ?_ | refine Ver.read (v := .pointer _) 23 rfl (by kernel_rfl) (fun M' L' w hM H => r_fieldAddr fo104_2 rfl ⟨rfl, rfl⟩) ?_
      refine Ver.read (v := .int _ _) 24 rfl (by kernel_rfl) (fun M' L' w hM H => ldI tt3 rfl (H.ro (hM _ _ (hM1 _ _ hMq))) hc2 ⟨rfl, rfl⟩) ?_
      refine Ver.nextX 12 (by kernel_rfl) rfl (by kernel_rfl) ?_
      clear H; intro w H
      refine r_call cc30 (rof_spec (x := a + 1) (by first | omega | (dsimp only; omega))) H ?_
      clear H; rintro v29 M29 L29 w hM29 ⟨rfl, h29⟩ H
      refine ⟨_, _, hM29, H, ?_⟩
      refine Ver.nextX 13 (by kernel_rfl) rfl (by kernel_rfl) ?_
      clear H; intro w H
      refine r_call cc70 (rmul_spec ((hgv.mono hM1).mono hM29) h29 (lf (a + 1) tb) (show a + 1 < 10 ^ 4 by omega) (by first | omega | (dsimp only; omega)) (by first | omega | (dsimp only; omega))) H ?_
      clear H; rintro v30 M30 L30 w hM30 ⟨rfl, a30, n30, c30, rfl, h30⟩ H
      refine ⟨_, _, hM30, H, ?_⟩
      refine Ver.read (v := .agg _) 25 rfl (by kernel_rfl) (fun M' L' w hM H => bld (cells := [.slice _ _ _, .int _ _, .int _ _]) tt104 pl104 pz104 rfl (by rfl) ⟨rfl, rfl⟩) ?_
      refine Ver.nextX 26 (by kernel_rfl) rfl (by kernel_rfl) ?_
      clear H; intro w H
      refine r_bsl (cells := [.slice _ _ _, .int _ _, .int _ _]) tt29 tt104 rfl (by rfl) H ?_; clear H; intro b43 w hb43 H; obtain ⟨M43, hM43, hle43, H⟩ := H.freezeX (i := 0) .head
      refine ⟨_, _, hle43, H, ?_⟩
      refine Ver.nextX 27 (by kernel_rfl) rfl (by kernel_rfl) ?_
      clear H; intro w H
      refine r_call cc19 (radd40_spec (((hS.mono hM29).mono hM30).mono hle43) (⟨some ⟨b43, 0, none⟩, 1, [(_, a, tb)], rfl, Nat.le_refl _, RowT.one hM43, RepT.one ⟨_, _, _, rfl, h30.mono hle43⟩ hx0 (by first | omega | (dsimp only; omega)) hbox.2, Nat.le_refl _⟩ : RefPm M43 _ (monoF (f (a + 1) tb * (a + 1)) a tb) 1) (k := k + 9) (by first | omega | (dsimp only; omega)) (fun c d => by rw [congrFun (congrFun hst c) d]; exact hlt c d) (by first | omega | (dsimp only; omega))) H ?_
      clear H; rintro v44 M44 L44 w hM44 ⟨rfl, h44⟩ H
      refine ⟨_, _, hM44, H, ?_⟩
      refine Ver.nextX 28 (by kernel_rfl) rfl (by kernel_rfl) ?_
      clear H; intro w H
      rw [hst] at h44; obtain ⟨a44, n44, c44, rfl⟩ := h44.shape; refine asL rfl ?_
      refine ⟨_, _, RO.le.refl _, H, ?_⟩
      refine Ver.finX (by kernel_rfl) ?_
      clear H; intro w H
      refine Goes.inBlock (Goes.region ?_)
      refine GoL.stepS rfl rfl (mvI rfl ?_)
      first | refine GoL.stepS rfl rfl (r_addI rfl rfl (by first | omega | (dsimp only; omega)) (by first | omega | (dsimp only; omega)) ?_) | refine GoL.stepS rfl rfl (r_add rfl rfl ?_)
      refine GoL.stepS rfl rfl (asI rfl ?_)
      refine GoL.nil ?_
      exact again (i + 1, (a44, n44, c44), M44, _) _ _ ⟨rfl, rfl, trivial⟩ (.of_strip (by kernel_rfl)) ⟨by first | omega | (dsimp only; omega), hM1.trans (hM29.trans (hM30.trans (hle43.trans hM44))), h44, H⟩ (by first | omega | (dsimp only; omega))
    · have hta : ta = 0 := by have : ¬ 0 < (ta : Int) := by simpa using ha0
                              omega
      subst hta
      refine Goes.skip (Goes.inBlock (Goes.region ?_))
      refine GoL.stepS rfl rfl (mvI rfl ?_)
      first | refine GoL.stepS rfl rfl (r_addI rfl rfl (by first | omega | (dsimp only; omega)) (by first | omega | (dsimp only; omega)) ?_) | refine GoL.stepS rfl rfl (r_add rfl rfl ?_)
      refine GoL.stepS rfl rfl (asI rfl ?_)
      refine GoL.nil ?_
      refine again (i + 1, (sa, sn, sc), M1, _) _ _ ⟨rfl, rfl, trivial⟩ (.of_strip (by kernel_rfl)) ⟨by first | omega | (dsimp only; omega), hM1, ?_, H⟩ (by first | omega | (dsimp only; omega))
      dsimp only
      rw [htk, ← dT_skip]
      obtain ⟨a0, c0, l0, e0, e1, e2, e3, e4⟩ := hS
      exact ⟨a0, c0, l0, e0, e1, e2, e3, by omega⟩
  · have hin : i = lp.length := by have : ¬ (i : Int) < (lp.length : Int) := by simpa using hc
                                   omega
    subst hin
    rw [List.take_length, dT_all hpr] at hS
    refine Goes.exit rfl (Goes.seq (Goes.region ?_))
    refine GoL.stepS rfl rfl (mvL rfl ?_)
    refine GoL.stepS rfl rfl (asL rfl ?_)
    refine GoL.nil ?_
    refine Goes.ret (ret1 (v := .slice _ _ _) rfl rfl rfl H.nil ⟨rfl, ?_⟩)
    obtain ⟨a0, c0, l0, e0, e1, e2, e3, e4⟩ := hS
    exact ⟨a0, c0, l0, e0, e1, e2, e3, by omega⟩

end Go.Proofs.YtlcpdkckldlceaaGreatDoor
namespace Go.Proofs.YtlcpdkckldlceaaGreatDoor
open Go.Sx Go.Nat32 Go.Dec Go.PolyL
attribute [local irreducible] pt sl itc itm
set_option maxRecDepth 100000
set_option linter.unusedVariables false
set_option linter.unusedSimpArgs false
set_option maxHeartbeats 1000000

/-- The coefficients of y^b. -/
def rowF (f : Nat → Nat → Nat) (b : Int) (a : Nat) : Nat := if 0 ≤ b then f a b.toNat else 0
structure IsRow (g : Nat → Nat) (x : Int) : Prop where
  low : -1 ≤ x
  high : x ≤ 2048
  ge : ∀ a : Nat, g a ≠ 0 → (a : Int) ≤ x
  at_ : x = -1 ∨ ∃ a : Nat, g a ≠ 0 ∧ x = (a : Int)
theorem IsRow.uniq {g : Nat → Nat} {x y : Int} (h : IsRow g x) (h' : IsRow g y) : x = y := by
  have h1 := h.low
  have h2 := h'.low
  rcases h.at_ with e | ⟨a, ha, e⟩
  · rcases h'.at_ with e' | ⟨a', ha', e'⟩
    · omega
    · have := h.ge a' ha'; omega
  · have k1 := h'.ge a ha
    rcases h'.at_ with e' | ⟨a', ha', e'⟩
    · omega
    · have := h.ge a' ha'; omega

/-- The greatest exponent in a row, of the terms that have been met. -/
structure RowL (l : List (Nat × Nat)) (b x : Int) : Prop where
  low : -1 ≤ x
  high : x ≤ 2048
  ge : ∀ t ∈ l, (t.2 : Int) = b → (t.1 : Int) ≤ x
  at_ : x = -1 ∨ ∃ t ∈ l, (t.2 : Int) = b ∧ x = (t.1 : Int)
theorem RowL.nil (b : Int) : RowL [] b (-1) := ⟨by decide, by decide, (fun t ht => by cases ht), .inl rfl⟩
theorem RowL.hit {l : List (Nat × Nat)} {b x : Int} {t : Nat × Nat} (h : RowL l b x) (ht : (t.2 : Int) = b) (h1 : t.1 ≤ 2048) : RowL (l ++ [t]) b (max x (t.1 : Int)) where
  low := by have := h.low; omega
  high := by have := h.high; omega
  ge := fun s hs hb => by
    rcases List.mem_append.1 hs with hs | hs
    · have := h.ge s hs hb; omega
    · obtain rfl := List.mem_singleton.1 hs; omega
  at_ := by
    by_cases hc : x ≤ (t.1 : Int)
    · exact .inr ⟨t, by simp, ht, by omega⟩
    · rcases h.at_ with h' | ⟨s, hs, hb, h'⟩
      · have := h.low; omega
      · exact .inr ⟨s, List.mem_append_left _ hs, hb, by omega⟩
theorem RowL.miss {l : List (Nat × Nat)} {b x : Int} {t : Nat × Nat} (h : RowL l b x) (ht : ¬ (t.2 : Int) = b) : RowL (l ++ [t]) b x where
  low := h.low
  high := h.high
  ge := fun s hs hb => by
    rcases List.mem_append.1 hs with hs | hs
    · exact h.ge s hs hb
    · obtain rfl := List.mem_singleton.1 hs; exact absurd hb ht
  at_ := h.at_.imp id fun ⟨s, hs, hb, h'⟩ => ⟨s, List.mem_append_left _ hs, hb, h'⟩
theorem RowL.row {f : Nat → Nat → Nat} {l : List (Nat × Nat)} {b x : Int} (h : RowL l b x) (hl : ∀ k, k ∈ l ↔ f k.1 k.2 ≠ 0) : IsRow (rowF f b) x where
  low := h.low
  high := h.high
  ge := fun a ha => by
    unfold rowF at ha
    split at ha
    · rename_i hb
      exact h.ge (a, b.toNat) ((hl _).2 ha) (Int.toNat_of_nonneg hb)
    · exact absurd rfl ha
  at_ := by
    rcases h.at_ with e | ⟨t, ht, hb, e⟩
    · exact .inl e
    · refine .inr ⟨t.1, ?_, e⟩
      unfold rowF
      rw [if_pos (by omega), ← hb, Int.toNat_natCast]
      exact (hl t).1 ht

theorem rrow_spec {M : RO} {u : Value} {f : Nat → Nat → Nat} {m : Nat} {b : Int} (hu : RefPm M u f m) (hm : m ≤ 1000000) :
    Sp Tryz.prog 50 [u, .int .i64 b] M [] fun r M' L' => L' = [] ∧ ∃ a c vs, r = .slice a vs.length c ∧ vs.length ≤ c ∧ RoRow M' a vs ∧ (∀ j y, vs[j]? = some y → RefN M' y (rowF f b j)) ∧ IsRow (rowF f b) ((vs.length : Int) - 1) := by
  have hu' := hu
  obtain ⟨pa, pc, lp, rfl, hpc, hp, hpr, hpm⟩ := hu
  have hks2 : ∀ k, k ∈ lp.map (·.2) ↔ f k.1 k.2 ≠ 0 := by
    intro k
    constructor
    · intro hk
      obtain ⟨t, ht, rfl⟩ := List.mem_map.1 hk
      exact (hpr.val t ht).1
    · intro h0
      obtain ⟨t, ht, he⟩ := hpr.all _ _ h0
      exact List.mem_map.2 ⟨t, ht, he⟩
  refine Sp.enter (n := 42) Tryz.func50 rfl Tryz.ntmps50 rfl ?_
  intro E hE H
  subst hE
  refine Goes.seq (Goes.region ?_)
  refine GoL.stepS rfl rfl (asL rfl ?_)
  refine GoL.nil ?_
  refine Goes.seq (Goes.region ?_)
  refine GoL.stepS rfl rfl (asL rfl ?_)
  refine GoL.nil ?_
  refine Goes.seq (Goes.region ?_)
  refine GoL.stepS rfl rfl (asI rfl ?_)
  refine GoL.nil ?_
  refine Goes.seq (Goes.seq (Goes.region ?_))
  refine GoL.stepS rfl rfl (asI rfl ?_)
  refine GoL.nil ?_
  refine Goes.cutT (6 :: 7 :: 9 :: 10 :: 11 :: 12 :: 13 :: 14 :: 15 :: 16 :: 17 :: 18 :: 19 :: 20 :: 21 :: 22 :: 23 :: 24 :: 25 :: 26 :: 27 :: 28 :: []) [(6, .int .i64 (-1)), (7, .int .i64 0)] (fun (x : Int) => [(6, .int .i64 x)]) (fun x w => IsRow (rowF f b) x ∧ Hp E E.M [] w) ⟨rfl, rfl, trivial⟩ ?aft ?cut
  case cut =>
    intro f0 meet
    refine Goes.block ?_
    refine Goes.loopS (6 :: 7 :: 9 :: 10 :: 11 :: 12 :: 13 :: 14 :: 15 :: 16 :: 17 :: 18 :: 19 :: 20 :: 21 :: 22 :: 23 :: 24 :: 25 :: 26 :: 27 :: 28 :: []) (fun (s : Nat × Int) => [(7, .int .i64 (s.1 : Int)), (6, .int .i64 s.2)]) (fun s w => s.1 ≤ lp.length ∧ RowL ((lp.take s.1).map (·.2)) b s.2 ∧ Hp E E.M [] w) (fun s => lp.length - s.1) (0, -1) ⟨rfl, rfl, trivial⟩ ⟨Nat.zero_le _, .nil b, H⟩ ?_
    clear H
    rintro ⟨i, x⟩ f1 w ⟨hi, hx, H⟩ again
    dsimp only at hi hx H
    refine Goes.seq (Goes.seq (Goes.region ?_))
    refine GoL.stepS rfl rfl (mvI rfl ?_)
    refine GoL.stepS rfl rfl (mvL rfl ?_)
    refine GoL.stepS rfl rfl (r_lenSlice tt29 rfl ?_)
    refine GoL.stepS rfl rfl (r_lss rfl rfl ?_)
    refine GoL.nil ?_
    refine Goes.cond rfl (fun hc => ?_) (fun hc => ?_)
    · have hin : i < lp.length := by have : (i : Int) < (lp.length : Int) := by simpa using hc
                                     omega
      obtain ⟨⟨tv, ta, tb⟩, ht⟩ : ∃ t, lp[i]? = some t := ⟨lp[i], List.getElem?_eq_getElem hin⟩
      obtain ⟨qb, qo, qcs, qe, qz, rfl, hMq, hc0, hc1, hc2⟩ := RowT.at hp ht
      have hbox := hpr.box _ (List.mem_of_getElem? ht)
      dsimp only at hc0 hc1 hc2 hbox
      have htk : (lp.take (i + 1)).map (·.2) = (lp.take i).map (·.2) ++ [(ta, tb)] := by rw [List.take_add_one, ht, List.map_append]; rfl
      refine Goes.skip (Goes.seq (Goes.block (Goes.seq (Goes.region ?_))))
      refine GoL.stepS rfl rfl (mvL rfl ?_)
      refine GoL.stepS rfl rfl (mvI rfl ?_)
      refine GoL.stepS rfl rfl (r_indexAddrN tt29 tt104 rfl rfl hin ?_)
      first | refine GoL.stepS rfl rfl (r_fieldAddr0 fo104_2 rfl ?_) | refine GoL.stepS rfl rfl (r_fieldAddr fo104_2 rfl ?_)
      refine GoL.stepS rfl rfl (ldI tt3 rfl (H.ro hMq) hc2 ?_)
      refine GoL.stepS rfl rfl (mvI rfl ?_)
      refine GoL.stepS rfl rfl (r_eql rfl rfl ?_)
      refine GoL.nil ?_
      refine Goes.cond rfl (fun hd => ?_) (fun hd => ?_)
      · have hd' : (tb : Int) = b := by simpa using hd
        refine Goes.region ?_
        refine GoL.stepS rfl rfl (mvI rfl ?_)
        refine GoL.stepS rfl rfl (mvL rfl ?_)
        refine GoL.stepS rfl rfl (mvI rfl ?_)
        refine GoL.stepS rfl rfl (r_indexAddrN tt29 tt104 rfl rfl hin ?_)
        first | refine GoL.stepS rfl rfl (r_fieldAddr0 fo104_1 rfl ?_) | refine GoL.stepS rfl rfl (r_fieldAddr fo104_1 rfl ?_)
        refine GoL.stepS rfl rfl (ldI tt3 rfl (H.ro hMq) hc1 ?_)
        refine GoL.stepS rfl rfl (r_max2 rfl rfl ?_)
        refine GoL.stepS rfl rfl (asI rfl ?_)
        refine GoL.nil ?_
        refine Goes.inBlock (Goes.region ?_)
        refine GoL.stepS rfl rfl (mvI rfl ?_)
        first | refine GoL.stepS rfl rfl (r_addI rfl rfl (by first | omega | (dsimp only; omega)) (by first | omega | (dsimp only; omega)) ?_) | refine GoL.stepS rfl rfl (r_add rfl rfl ?_)
        refine GoL.stepS rfl rfl (asI rfl ?_)
        refine GoL.nil ?_
        refine again (i + 1, max x (ta : Int)) _ _ ⟨rfl, rfl, trivial⟩ (.of_strip (by kernel_rfl)) ⟨by first | omega | (dsimp only; omega), ?_, H⟩ (by first | omega | (dsimp only; omega))
        dsimp only; rw [htk]; exact hx.hit hd' hbox.1
      · have hd' : ¬ (tb : Int) = b := by simpa using hd
        refine Goes.skip (Goes.inBlock (Goes.region ?_))
        refine GoL.stepS rfl rfl (mvI rfl ?_)
        first | refine GoL.stepS rfl rfl (r_addI rfl rfl (by first | omega | (dsimp only; omega)) (by first | omega | (dsimp only; omega)) ?_) | refine GoL.stepS rfl rfl (r_add rfl rfl ?_)
        refine GoL.stepS rfl rfl (asI rfl ?_)
        refine GoL.nil ?_
        refine again (i + 1, x) _ _ ⟨rfl, rfl, trivial⟩ (.of_strip (by kernel_rfl)) ⟨by first | omega | (dsimp only; omega), ?_, H⟩ (by first | omega | (dsimp only; omega))
        dsimp only; rw [htk]; exact hx.miss hd'
    · have hin : i = lp.length := by have : ¬ (i : Int) < (lp.length : Int) := by simpa using hc
                                     omega
      subst hin
      rw [List.take_length] at hx
      refine Goes.exit rfl ?_
      exact meet x _ _ ⟨rfl, trivial⟩ (.of_strip2 (by kernel_rfl)) ⟨hx.row hks2, H⟩
  case aft =>
    clear H
    rintro x f2 w ⟨hx, H⟩
    have hx1 := hx.low
    have hx2 := hx.high
    refine Goes.seq (Goes.seq (Goes.region ?_))
    refine GoL.stepS rfl rfl (asI rfl ?_)
    refine GoL.nil ?_
    refine Goes.block ?_
    have H := H.emp (sl_nil 55 1)
    refine Goes.loopS [5, 8, 29, 30, 31, 32, 33, 34, 35, 36, 37, 38, 39, 40] (fun (s : List Value × Value × RO) => [(8, .int .i64 (s.1.length : Int)), (5, s.2.1)]) (fun s w => (s.1.length : Int) ≤ x + 1 ∧ E.M.le s.2.2 ∧ (∀ j y, s.1[j]? = some y → RefN s.2.2 y (rowF f b j)) ∧ Hp E s.2.2 [sl 55 1 s.2.1 s.1] w) (fun s => (x + 1).toNat - s.1.length) ([], .slice none 0 0, E.M) ⟨rfl, rfl, trivial⟩ ⟨by show (0 : Int) ≤ _; omega, RO.le.refl _, (fun j y h => by simp at h), H⟩ ?_
    clear H
    rintro ⟨vs, v, M1⟩ f3 w ⟨hl, hM1, hvs, H⟩ again
    dsimp only at hl hM1 hvs H
    refine Goes.seq (Goes.seq (Goes.region ?_))
    refine GoL.stepS rfl rfl (mvI rfl ?_)
    refine GoL.stepS rfl rfl (mvI rfl ?_)
    refine GoL.stepS rfl rfl (r_leq rfl rfl ?_)
    refine GoL.nil ?_
    refine Goes.cond rfl (fun hc => ?_) (fun hc => ?_)
    · have hlt : (vs.length : Int) ≤ x := by simpa using hc
      refine Goes.skip (Goes.seq (Goes.block (Goes.region ?_)))
      refine GoL.stepS rfl rfl (r_mv (v := v) rfl ?_)
      refine GoL.stepS rfl rfl (mvL rfl ?_)
      refine GoL.stepS rfl rfl (mvI rfl ?_)
      refine GoL.stepS rfl rfl (mvI rfl ?_)
      refine GoL.stepS rfl rfl (r_call cc40 (rat40_spec (hu'.mono hM1) hm) H ?_); clear H; rintro v38 M38 L38 w hM38 ⟨rfl, rfl, h38⟩ H
      obtain ⟨a38, n38, c38, rfl⟩ := h38.shape
      have hrf : (if 0 ≤ (vs.length : Int) ∧ 0 ≤ b then f (vs.length : Int).toNat b.toNat else 0) = rowF f b vs.length := by
        unfold rowF
        rw [Int.toNat_natCast]
        by_cases h : 0 ≤ b
        · rw [if_pos ⟨Int.natCast_nonneg _, h⟩, if_pos h]
        · rw [if_neg (fun h' => h h'.2), if_neg h]
      rw [hrf] at h38
      refine GoL.stepS rfl rfl (r_bsl (cells := [.slice _ _ _]) tt83 tt55 rfl (by rfl) H ?_); clear H; intro b39 w hb39 H
      refine GoL.stepS rfl rfl (r_appendO (m := 1) tt83 tt55 tt83 (by intro k hk; cases hk) rfl rfl rfl H (.tail .head) .head rfl rfl rfl rfl (by first | omega | (dsimp only; omega)) ?_); clear H; intro v40 w H
      refine GoL.stepS rfl rfl (r_as (v := v40) rfl ?_)
      refine GoL.nil ?_
      refine Goes.inBlock (Goes.region ?_)
      refine GoL.stepS rfl rfl (mvI rfl ?_)
      first | refine GoL.stepS rfl rfl (r_addI rfl rfl (by first | omega | (dsimp only; omega)) (by first | omega | (dsimp only; omega)) ?_) | refine GoL.stepS rfl rfl (r_add rfl rfl ?_)
      refine GoL.stepS rfl rfl (asI rfl ?_)
      refine GoL.nil ?_
      refine again (vs ++ [.slice a38 n38 c38], v40, _) _ _ ⟨by show Value.int .i64 _ = Value.int .i64 _; rw [List.length_append]; rfl, rfl, trivial⟩ (.of_strip (by kernel_rfl)) ⟨by dsimp only; rw [List.length_append]; simp; omega, hM1, ?_, H.right (L := [_])⟩ (by dsimp only; rw [List.length_append]; simp; omega)
      intro j y hj
      dsimp only at hj
      rw [List.getElem?_append] at hj
      split at hj
      · exact hvs j y hj
      · rename_i hjl
        have hj0 : j - vs.length = 0 := by
          rcases Nat.eq_zero_or_pos (j - vs.length) with h | h
          · exact h
          · rw [List.getElem?_eq_none (by simp; omega)] at hj; cases hj
        rw [hj0] at hj
        cases hj
        have : j = vs.length := by omega
        subst this; exact h38
    · have hlt : ¬ (vs.length : Int) ≤ x := by simpa using hc
      refine Goes.exit rfl (Goes.seq (Goes.region ?_))
      refine GoL.stepS rfl rfl (r_mv (v := v) rfl ?_)
      refine GoL.stepS rfl rfl (r_as (v := v) rfl ?_)
      refine GoL.nil ?_
      obtain ⟨M', a, k, c, rfl, hll, hk, hr, hle, H3⟩ := H.freezeSl .head
      have hk2 : k = vs.length := by omega
      subst hk2
      refine Goes.ret (ret1 (v := .slice _ _ _) rfl rfl rfl H3.nil ⟨rfl, a, c, vs, rfl, hk, hr, fun j y hj => (hvs j y hj).mono hle, ?_⟩)
      have : (vs.length : Int) - 1 = x := by omega
      rw [this]; exact hx

end Go.Proofs.YtlcpdkckldlceaaGreatDoor
