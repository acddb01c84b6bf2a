/-
  The statement PolynomialCoefficients holds for every input, the listed library variables holding what their initialisers lay: it returns true and leaves its arguments as they were.
-/
import Derived.Test.YtlcpdkckldlceaaGreatDoorFL
import Derived.Test.YtlcpdkckldlceaaGreatDoorFM
import Derived.ChangeMaps5
import Derived.Test.YtlcpdkckldlceaaGreatDoorRows
import Derived.SevenTiedAt
import Derived.JoinedCond
namespace Go.Proofs.YtlcpdkckldlceaaGreatDoor
open Go.Sx Go.Nat32 Go.Dec Go.PolyL Go.Lib Go.Proofs
attribute [local irreducible] pt sl itc itm
set_option maxRecDepth 100000
set_option linter.unusedVariables false
set_option linter.unusedSimpArgs false
set_option maxHeartbeats 1000000

theorem conv_lt {f g : Nat → Nat → Nat} {k : Nat} (hf : ∀ a b, f a b < 10 ^ k) (hg : ∀ a b, g a b < 10 ^ k) (a b : Nat) : conv f g a b < 10 ^ (2 * k + 14) := by
  have h1 := conv_le (f := f) (g := g) (c := 10 ^ k * 10 ^ k) (fun a b d e => Nat.mul_le_mul (Nat.le_of_lt (hf a b)) (Nat.le_of_lt (hg d e))) a b
  have h2 : (10 : Nat) ^ (2 * k + 14) = 10 ^ k * 10 ^ k * 100000000000000 := by
    rw [Nat.pow_add, Nat.two_mul, Nat.pow_add]
  have h3 : 0 < 10 ^ k * 10 ^ k := Nat.mul_pos (Nat.pow_pos (by decide)) (Nat.pow_pos (by decide))
  rw [h2]
  generalize 10 ^ k * 10 ^ k = z at *
  omega
theorem conv_lim {f g : Nat → Nat → Nat} {k l : Nat} (hf : ∀ a b, lim k (f a b)) (hg : ∀ a b, lim l (g a b)) (a b : Nat) : lim (k + l + 2) (conv f g a b) := by
  have h1 := conv_le (f := f) (g := g) (c := 4294967296 ^ k * 4294967296 ^ l) (fun a b d e => Nat.mul_le_mul (Nat.le_of_lt (hf a b)) (Nat.le_of_lt (hg d e))) a b
  unfold lim
  have h2 : (4294967296 : Nat) ^ (k + l + 2) = 4294967296 ^ k * 4294967296 ^ l * 18446744073709551616 := by
    rw [Nat.pow_add, Nat.pow_add]
  have h3 : 0 < 4294967296 ^ k * 4294967296 ^ l := Nat.mul_pos (Nat.pow_pos (by decide)) (Nat.pow_pos (by decide))
  rw [h2]
  generalize 4294967296 ^ k * 4294967296 ^ l = z at *
  omega

theorem Made.shapes {M : RO} {v u : Value} {f : Nat → Nat → Nat} {most m : Nat} (h : Made M v u f most m) : ∃ q a n c, v = .agg #[.map q] ∧ u = .slice a n c := by
  obtain ⟨q, hq⟩ := h.p.shape
  obtain ⟨a, n, c, hu⟩ := h.r.shape
  exact ⟨q, a, n, c, hq, hu⟩

theorem sumProduct_law {M : RO} (hT : TabM M) (hm : MaxM M) {va vb : Value} {ta tb : List (Nat × Nat × Nat)} {small : Bool} (ha : ArgT M va ta) (hb : ArgT M vb tb) :
    Sp0 Tryz.prog 4 [va, vb, .bool small] M [] fun r _ _ => r = .bool true := by
  have ha' := ha
  have hb' := hb
  obtain ⟨aa, ac, rfl, _⟩ := ha.shape
  obtain ⟨ba, bc, rfl, _⟩ := hb.shape
  refine Sp0.enter (n := 54) Tryz.func4 rfl Tryz.ntmps4 rfl ?_
  intro E hdr hE H
  subst hE
  refine Goes.seq (Goes.region ?_)
  refine GoL.stepS rfl rfl (asB rfl ?_)
  refine GoL.nil ?_
  refine Goes.seq (Goes.region ?_)
  refine GoL.stepS rfl rfl (asI rfl ?_)
  refine GoL.nil ?_
  refine Goes.seq (Goes.seq (Goes.region ?_))
  refine GoL.stepS rfl rfl (mvB rfl ?_)
  refine GoL.nil ?_
  refine Goes.cutT [7] [(7, .int .i64 2048)] (fun (most : Nat) => [(7, .int .i64 (most : Int))]) (fun most w => most ≤ 2048 ∧ Hp E E.M [] w) ⟨rfl, trivial⟩ ?aft ?cut
  case cut =>
    intro f0 meet
    refine Goes.cond rfl (fun hs => ?_) (fun hs => ?_)
    · refine Goes.region ?_
      refine GoL.stepS rfl rfl (asI rfl ?_)
      refine GoL.nil ?_
      exact meet 3 _ _ ⟨rfl, trivial⟩ (.of_strip (by kernel_rfl)) ⟨by decide, H⟩
    · refine Goes.skip ?_
      exact meet 2048 _ _ ⟨rfl, trivial⟩ (.of_strip (by kernel_rfl)) ⟨Nat.le_refl _, H⟩
  case aft =>
    clear H
    rintro most f1 w ⟨hmost, H⟩
    refine Goes.seq (Goes.region ?_)
    refine GoL.stepS rfl rfl (mvL rfl ?_)
    refine GoL.stepS rfl rfl (mvI rfl ?_)
    refine GoL.stepS rfl rfl (r_call cc17 (made40_spec ha' hmost) H ?_); clear H; rintro v16 M16 L16 w hM16 ⟨rfl, p16, u16, f, rfl, hf⟩ H
    obtain ⟨q16, a16, n16, c16, rfl, rfl⟩ := hf.shapes
    refine GoL.stepS rfl rfl (mvT rfl ?_)
    refine GoL.stepS rfl rfl (r_extract rfl rfl ?_)
    refine GoL.stepS rfl rfl (r_extract rfl rfl ?_)
    refine GoL.stepS rfl rfl (r_alloc tt24 H ?_); clear H; intro b8 w hb8 H
    refine GoL.step0 rfl (stA tt24 rfl rfl H (by repeat constructor) rfl rfl (by rfl) ?_); clear H; intro w H
    refine GoL.stepS rfl rfl (asL rfl ?_)
    refine GoL.nil ?_
    refine Goes.seq (Goes.region ?_)
    refine GoL.stepS rfl rfl (mvL rfl ?_)
    refine GoL.stepS rfl rfl (mvI rfl ?_)
    refine GoL.stepS rfl rfl (r_call cc17 (made40_spec (hb'.mono hM16) hmost) H ?_); clear H; rintro v22 M22 L22 w hM22 ⟨rfl, p22, u22, g, rfl, hg⟩ H
    obtain ⟨q22, a22, n22, c22, rfl, rfl⟩ := hg.shapes
    have hf := hf.mono hM22
    have hfg : ∀ a b, f a b + g a b < 10 ^ 12 := fun a b => by
      have h1 := hf.lt a b
      have h2 := hg.lt a b
      have h3 : (10 : Nat) ^ 11 = 100000000000 := rfl
      have h4 : (10 : Nat) ^ 12 = 1000000000000 := rfl
      rw [h3] at h1 h2; rw [h4]; omega
    have gT : TabM M22 := (hT.mono hM16).mono hM22
    have gle : ∀ {A B C D F G J : RO}, A.le B → B.le C → C.le D → D.le F → F.le G → G.le J → A.le J := fun h1 h2 h3 h4 h5 h6 b o h => h6 _ _ (h5 _ _ (h4 _ _ (h3 _ _ (h2 _ _ (h1 _ _ h)))))
    refine GoL.stepS rfl rfl (mvT rfl ?_)
    refine GoL.stepS rfl rfl (r_extract rfl rfl ?_)
    refine GoL.stepS rfl rfl (r_extract rfl rfl ?_)
    refine GoL.stepS rfl rfl (r_alloc tt24 H ?_); clear H; intro b10 w hb10 H
    refine GoL.step0 rfl (stA tt24 rfl rfl H (by repeat constructor) rfl rfl (by rfl) ?_); clear H; intro w H
    refine GoL.stepS rfl rfl (asL rfl ?_)
    refine GoL.nil ?_
    refine Goes.seq (Goes.region ?_)
    refine GoL.stepS rfl rfl (r_call0 hdr cc14 (known_spec ((hT.mono hM16).mono hM22) ((hm.mono hM16).mono hM22)) H ?_); clear H; rintro v25 M25 L25 w hM25 ⟨rfl, rfl⟩ H
    refine GoL.stepS rfl rfl (mvB rfl ?_)
    refine GoL.stepYS rfl rfl rfl (ldA tt24 rfl (H.own (by repeat constructor)) rfl (by rfl) ?_)
    refine GoL.stepYS rfl rfl rfl (ldA tt24 rfl (H.own (by repeat constructor)) rfl (by rfl) ?_)
    refine GoL.stepYS rfl rfl rfl (r_call cc18 (padd_spec (hf.p.mono hM25) (hg.p.mono hM25) hf.lim hg.lim (by first | omega | (dsimp only; omega))) H ?_); clear H; rintro v29 M29 L29 w hM29 ⟨rfl, h29⟩ H
    refine GoL.stepYS rfl rfl rfl (mvL rfl ?_)
    refine GoL.stepYS rfl rfl rfl (mvL rfl ?_)
    refine GoL.stepYS rfl rfl rfl (r_call cc19 (radd40_spec (((hf.r.mono hM25)).mono hM29) ((hg.r.mono hM25).mono hM29) (k := 12) (by first | omega | (dsimp only; omega)) hfg (by first | omega | (dsimp only; omega))) H ?_); clear H; rintro v32 M32 L32 w hM32 ⟨rfl, h32⟩ H
    refine GoL.stepYS rfl rfl rfl (r_call0 hdr cc15 (alike_spec (((gT.mono hM25).mono hM29).mono hM32) (h29.mono hM32) h32 (k := 12) (by first | omega | (dsimp only; omega)) hfg (by first | omega | (dsimp only; omega))) H ?_); clear H; rintro v33 M33 L33 w hM33 ⟨rfl, rfl⟩ H
    refine GoL.stepS rfl rfl (r_pickB rfl rfl rfl ?_)
    refine GoL.stepS rfl rfl (mvB rfl ?_)
    refine GoL.stepYS rfl rfl rfl (ldA tt24 rfl (H.own (by repeat constructor)) rfl (by rfl) ?_)
    refine GoL.stepYS rfl rfl rfl (ldA tt24 rfl (H.own (by repeat constructor)) rfl (by rfl) ?_)
    refine GoL.stepYS rfl rfl rfl (r_call cc20 (pmul_spec (((((hf.p.mono hM25).mono hM29).mono hM32)).mono hM33) ((((hg.p.mono hM25).mono hM29).mono hM32).mono hM33) hf.lim hg.lim (by first | omega | (dsimp only; omega))) H ?_); clear H; rintro v38 M38 L38 w hM38 ⟨rfl, h38⟩ H
    refine GoL.stepYS rfl rfl rfl (mvL rfl ?_)
    refine GoL.stepYS rfl rfl rfl (mvL rfl ?_)
    refine GoL.stepYS rfl rfl rfl (r_call cc21 (rmul40_spec (((((hf.r.mono hM25).mono hM29).mono hM32).mono hM33).mono hM38) (((((hg.r.mono hM25).mono hM29).mono hM32).mono hM33).mono hM38) (k := 11) (by first | omega | (dsimp only; omega)) hf.lt hg.lt (by first | omega | (dsimp only; omega)) (by first | omega | (dsimp only; omega))) H ?_); clear H; rintro v41 M41 L41 w hM41 ⟨rfl, h41⟩ H
    refine GoL.stepYS rfl rfl rfl (r_call0 hdr cc15 (alike_spec ((((((gT.mono hM25).mono hM29).mono hM32).mono hM33).mono hM38).mono hM41) (h38.mono hM41) h41 (k := 36) (by first | omega | (dsimp only; omega)) (conv_lt (k := 11) hf.lt hg.lt) (by first | omega | (dsimp only; omega))) H ?_); clear H; rintro v42 M42 L42 w hM42 ⟨rfl, rfl⟩ H
    refine GoL.stepS rfl rfl (r_pickB rfl rfl rfl ?_)
    refine GoL.stepS rfl rfl (mvB rfl ?_)
    refine GoL.stepYS rfl rfl rfl (ldA tt24 rfl (H.own (by repeat constructor)) rfl (by rfl) ?_)
    refine GoL.stepYS rfl rfl rfl (mvL rfl ?_)
    refine GoL.stepYS rfl rfl rfl (r_call0 hdr cc15 (alike_spec ((gT.mono (gle hM25 hM29 hM32 hM33 hM38 hM41)).mono hM42) ((hf.p.mono (gle hM25 hM29 hM32 hM33 hM38 hM41)).mono hM42) ((hf.r.mono (gle hM25 hM29 hM32 hM33 hM38 hM41)).mono hM42) (k := 11) (by first | omega | (dsimp only; omega)) hf.lt (by first | omega | (dsimp only; omega))) H ?_); clear H; rintro v47 M47 L47 w hM47 ⟨rfl, rfl⟩ H
    refine GoL.stepS rfl rfl (r_pickB rfl rfl rfl ?_)
    refine GoL.stepS rfl rfl (mvB rfl ?_)
    refine GoL.stepYS rfl rfl rfl (ldA tt24 rfl (H.own (by repeat constructor)) rfl (by rfl) ?_)
    refine GoL.stepYS rfl rfl rfl (mvL rfl ?_)
    refine GoL.stepYS rfl rfl rfl (r_call0 hdr cc15 (alike_spec (((gT.mono (gle hM25 hM29 hM32 hM33 hM38 hM41)).mono hM42).mono hM47) (((hg.p.mono (gle hM25 hM29 hM32 hM33 hM38 hM41)).mono hM42).mono hM47) (((hg.r.mono (gle hM25 hM29 hM32 hM33 hM38 hM41)).mono hM42).mono hM47) (k := 11) (by first | omega | (dsimp only; omega)) hg.lt (by first | omega | (dsimp only; omega))) H ?_); clear H; rintro v52 M52 L52 w hM52 ⟨rfl, rfl⟩ H
    refine GoL.stepS rfl rfl (r_pickB rfl rfl rfl ?_)
    refine GoL.stepS rfl rfl (asB rfl ?_)
    refine GoL.nil ?_
    exact Goes.ret (ret1 (v := .bool _) rfl rfl rfl H.nil rfl)

end Go.Proofs.YtlcpdkckldlceaaGreatDoor
namespace Go.Proofs.YtlcpdkckldlceaaGreatDoor
open Go.Sx Go.Nat32 Go.Dec Go.PolyL Go.Lib Go.Proofs
attribute [local irreducible] pt sl itc itm
set_option maxRecDepth 100000
set_option linter.unusedVariables false
set_option linter.unusedSimpArgs false
set_option maxHeartbeats 1000000

theorem r_neqSF {P : Program} {ρ : Env} {w : World} {K : Value → World → Prop} {dst : Option Tmp} {ty : TypeId} {pos : String} {aft : Array Edge} {g : Option (Nat × Bool)} {t yt : TypeId} {x y : Operand} {a b : List UInt8} (hx : ρ.ev x = .string ⟨a.toArray⟩) (hy : ρ.ev y = .string ⟨b.toArray⟩) (hc : a = b) (h : K (.bool false) w) : OpRuns P ρ ⟨dst, .binOp .neq t x y yt, ty, pos, aft, g⟩ w K := by
  refine r_neqS hx hy ?_
  subst hc
  have : (!(a == a)) = false := by simp
  rw [this]; exact h
theorem rowF_lim {f : Nat → Nat → Nat} {k : Nat} (lf : ∀ a b, lim k (f a b)) (b : Int) (j : Nat) : lim k (rowF f b j) := by
  unfold rowF
  split
  · exact lf _ _
  · unfold Go.Nat32.lim; exact Nat.pow_pos (by decide)
theorem rowF_lt {f : Nat → Nat → Nat} {k : Nat} (lf : ∀ a b, f a b < 10 ^ k) (b : Int) (j : Nat) : rowF f b j < 10 ^ k := by
  unfold rowF
  split
  · exact lf _ _
  · exact Nat.pow_pos (by decide)

theorem coefficients_law {M : RO} (hT : TabM M) (hm : MaxM M) {va : Value} {ta : List (Nat × Nat × Nat)} {b : Int} (ha : ArgT M va ta) (hb : -9223372036854775808 ≤ b ∧ b ≤ 9223372036854775807) :
    Sp0 Tryz.prog 11 [va, .int .i64 b] M [] fun r _ _ => r = .bool true := by
  have ha' := ha
  obtain ⟨aa, ac, rfl, _⟩ := ha.shape
  refine Sp0.enter (n := 60) Tryz.func11 rfl Tryz.ntmps11 rfl ?_
  intro E hdr hE H
  subst hE
  refine Goes.seq (Goes.region ?_)
  refine GoL.stepS rfl rfl (asB rfl ?_)
  refine GoL.nil ?_
  refine Goes.seq (Goes.region ?_)
  refine GoL.stepS rfl rfl (mvL rfl ?_)
  refine GoL.stepS rfl rfl (r_call cc17 (made40_spec (most := 12) ha' (by decide)) H ?_); clear H; rintro v13 M13 L13 w hM13 ⟨rfl, p13, u13, f, rfl, hf⟩ H
  refine GoL.stepS rfl rfl (mvT rfl ?_)
  obtain ⟨q13, a13, n13, c13, rfl, rfl⟩ := hf.shapes
  refine GoL.stepS rfl rfl (r_extract rfl rfl ?_)
  refine GoL.stepS rfl rfl (r_extract rfl rfl ?_)
  refine GoL.stepS rfl rfl (r_alloc tt24 H ?_); clear H; intro b5 w hb5 H
  refine GoL.step0 rfl (stA tt24 rfl rfl H (by repeat constructor) rfl rfl (by rfl) ?_); clear H; intro w H
  refine GoL.stepS rfl rfl (asL rfl ?_)
  refine GoL.nil ?_
  refine Goes.seq (Goes.seq ?_)
  obtain ⟨K5, hb5, hle5, H⟩ := H.freezeX (i := 0) .head
  have lf := hf.lim
  have hfK := hf.mono hle5
  have hTK : TabM K5 := (hT.mono hM13).mono hle5
  have hmK : MaxM K5 := (hm.mono hM13).mono hle5
  refine Goes.region ?_
  refine GoL.stepS rfl rfl (asI rfl ?_)
  refine GoL.nil ?_
  refine Goes.block ?_
  refine Goes.loopS (4 :: 7 :: 8 :: 9 :: 10 :: 16 :: 17 :: 18 :: 19 :: 20 :: 21 :: 22 :: 23 :: 24 :: 25 :: 26 :: 27 :: 28 :: 29 :: 30 :: 31 :: 32 :: 33 :: 34 :: 35 :: 36 :: 37 :: 38 :: 39 :: 40 :: 41 :: 42 :: 43 :: 44 :: 45 :: 46 :: 47 :: []) (fun (q : Nat × RO) => [(7, .int .i64 ((q.1 : Int) - 1))]) (fun q w => q.1 ≤ 15 ∧ K5.le q.2 ∧ Hp E q.2 [] w) (fun q => 15 - q.1) (0, K5) ⟨rfl, trivial⟩ ⟨Nat.zero_le _, RO.le.refl _, H⟩ ?_
  clear H
  rintro ⟨i, M1⟩ f1 w ⟨hi, hM1, H⟩ again
  dsimp only at hi hM1 H
  refine Goes.seq (Goes.seq (Goes.region ?_))
  refine GoL.stepS rfl rfl (mvI rfl ?_)
  refine GoL.stepS rfl rfl (r_leq rfl rfl ?_)
  refine GoL.nil ?_
  refine Goes.cond rfl (fun hd => ?_) (fun hd => ?_)
  · have hi14 : i ≤ 14 := by have : (i : Int) - 1 ≤ 13 := by simpa using hd
                             omega
    refine Goes.skip (Goes.seq (Goes.block (Goes.seq (Goes.region ?_))))
    refine GoL.stepS rfl rfl (ldA tt24 rfl (H.ro (hM1 _ _ hb5)) rfl (by rfl) ?_)
    refine GoL.stepS rfl rfl (mvI rfl ?_)
    refine GoL.stepS rfl rfl (r_call cc49 (prow_spec (b := (i : Int) - 1) (hfK.p.mono hM1) (by first | omega | (dsimp only; omega)) (by first | omega | (dsimp only; omega))) H ?_); clear H; rintro v22 M22 L22 w hM22 ⟨rfl, a22, c22, vs22, rfl, hc22, hr22, hv22, hw22⟩ H
    refine GoL.stepS rfl rfl (mvL rfl ?_)
    refine GoL.stepS rfl rfl (mvI rfl ?_)
    refine GoL.stepS rfl rfl (r_call cc50 (rrow_spec (b := (i : Int) - 1) ((hfK.r.mono hM1).mono hM22) (by first | omega | (dsimp only; omega))) H ?_); clear H; rintro v25 M25 L25 w hM25 ⟨rfl, a25, c25, vs25, rfl, hc25, hr25, hv25, hw25⟩ H
    refine GoL.stepS rfl rfl (asL rfl ?_)
    refine GoL.stepS rfl rfl (asL rfl ?_)
    refine GoL.nil ?_
    refine Goes.seq (Goes.seq ?_)
    have hlen : (vs22.length : Int) = (vs25.length : Int) := by have := hw22.uniq hw25; omega
    refine Goes.region ?_
    refine GoL.stepS rfl rfl (mvL rfl ?_)
    refine GoL.stepS rfl rfl (r_lenSlice tt81 rfl ?_)
    refine GoL.stepS rfl rfl (mvL rfl ?_)
    refine GoL.stepS rfl rfl (r_lenSlice tt83 rfl ?_)
    refine GoL.stepS rfl rfl (r_neqF rfl rfl (by first | omega | (dsimp only; omega)) ?_)
    refine GoL.nil ?_
    refine Goes.condF rfl (rfl) ?_
    refine Goes.skip (Goes.seq (Goes.region ?_))
    refine GoL.stepS rfl rfl (asI rfl ?_)
    refine GoL.nil ?_
    refine Goes.block ?_
    refine Goes.loopS (4 :: 10 :: 31 :: 32 :: 33 :: 34 :: 35 :: 36 :: 37 :: 38 :: 39 :: 40 :: 41 :: 42 :: 43 :: 44 :: 45 :: 46 :: 47 :: []) (fun (q : Nat × RO) => [(10, .int .i64 (q.1 : Int))]) (fun q w => q.1 ≤ vs22.length ∧ M25.le q.2 ∧ Hp E q.2 [] w) (fun q => vs22.length - q.1) (0, M25) ⟨rfl, trivial⟩ ⟨Nat.zero_le _, RO.le.refl _, H⟩ ?_
    clear H
    rintro ⟨j, M2⟩ f2 w ⟨hj, hM2, H⟩ again2
    dsimp only at hj hM2 H
    refine Goes.seq (Goes.seq (Goes.region ?_))
    refine GoL.stepS rfl rfl (mvI rfl ?_)
    refine GoL.stepS rfl rfl (mvL rfl ?_)
    refine GoL.stepS rfl rfl (r_lenSlice tt81 rfl ?_)
    refine GoL.stepS rfl rfl (r_lss rfl rfl ?_)
    refine GoL.nil ?_
    refine Goes.cond rfl (fun hd2 => ?_) (fun hd2 => ?_)
    · have hjn : j < vs22.length := by have : (j : Int) < (vs22.length : Int) := by simpa using hd2
                                       omega
      have hjn2 : j < vs25.length := by omega
      obtain ⟨y, hy⟩ : ∃ y, vs22[j]? = some y := ⟨_, List.getElem?_eq_getElem hjn⟩
      obtain ⟨z, hz⟩ : ∃ z, vs25[j]? = some z := ⟨_, List.getElem?_eq_getElem hjn2⟩
      obtain ⟨rb, ro, rcs, re, rz, rfl, hMq, hcj⟩ := hr22.at hy
      obtain ⟨sb, so, scs, se, sz, rfl, hMr, hdj⟩ := hr25.at hz
      have hy' := hv22 j y hy
      have hz' := hv25 j z hz
      obtain ⟨ya, yn, yc, ey⟩ := hy'.shape
      obtain rfl : y = .slice ya yn yc := by simpa using ey
      obtain ⟨za, zn, zc, rfl⟩ := hz'.shape
      have hlb := hw22.high
      refine Goes.skip (Goes.seq (Goes.block (Goes.seq ?_)))
      refine Goes.regionDX mixed (by kernel_rfl) 12 H ?_
      refine Ver.read (v := .slice _ _ _) 0 rfl (by kernel_rfl) (fun M' L' w hM H => mvL rfl ⟨rfl, rfl⟩) ?_
      refine Ver.read (v := .int _ _) 1 rfl (by kernel_rfl) (fun M' L' w hM H => mvI rfl ⟨rfl, rfl⟩) ?_
      refine Ver.read (v := .pointer _) 2 rfl (by kernel_rfl) (fun M' L' w hM H => r_indexAddrN tt81 tt49 rfl rfl hjn ⟨rfl, rfl⟩) ?_
      refine Ver.read (v := (.agg #[.slice ya yn yc])) 3 rfl (by kernel_rfl) (fun M' L' w hM H => r_load tt49 rfl (H.ro (hM _ _ (hM2 _ _ (hM25 _ _ hMq)))) (rd_agg1 rfl (by rw [Nat.mul_one]; exact hcj)) ⟨rfl, rfl⟩) ?_
      refine Ver.read (v := .slice _ _ _) 5 rfl (by kernel_rfl) (fun M' L' w hM H => mvL rfl ⟨rfl, rfl⟩) ?_
      refine Ver.read (v := .int _ _) 6 rfl (by kernel_rfl) (fun M' L' w hM H => mvI rfl ⟨rfl, rfl⟩) ?_
      refine Ver.read (v := .pointer _) 7 rfl (by kernel_rfl) (fun M' L' w hM H => r_indexAddrN tt83 tt55 rfl rfl hjn2 ⟨rfl, rfl⟩) ?_
      refine Ver.read (v := .slice _ _ _) 8 rfl (by kernel_rfl) (fun M' L' w hM H => ldL tt55 rfl (H.ro (hM _ _ (hM2 _ _ hMr))) (by rw [Nat.mul_one]; exact hdj) ⟨rfl, rfl⟩) ?_
      refine Ver.nextX 4 (by kernel_rfl) rfl (by kernel_rfl) ?_
      clear H; intro w H
      refine r_call0 hdr cc27 (natString_spec (k := 2) ((((hTK.mono hM1).mono hM22).mono hM25).mono hM2) ((hy'.mono hM25).mono hM2) (rowF_lim lf _ _) (by first | omega | (dsimp only; omega))) H ?_
      clear H; rintro v41 M41 L41 w hM41 ⟨rfl, rfl⟩ H
      refine ⟨_, _, hM41, H, ?_⟩
      refine Ver.nextX 9 (by kernel_rfl) rfl (by kernel_rfl) ?_
      clear H; intro w H
      refine r_call cc28 (rtext_spec (k := 11) ((hz'.mono hM2).mono hM41) (rowF_lt hf.lt _ _) (by first | omega | (dsimp only; omega))) H ?_
      clear H; rintro v46 M46 L46 w hM46 ⟨rfl, rfl⟩ H
      refine ⟨_, _, hM46, H, ?_⟩
      refine Ver.read (v := .bool _) 10 rfl (by kernel_rfl) (fun M' L' w hM H => r_neqSF rfl rfl rfl ⟨rfl, rfl⟩) ?_
      refine Ver.finX (by kernel_rfl) ?_
      clear H; intro w H
      refine Goes.condF rfl (rfl) ?_
      refine Goes.skip (Goes.inBlock (Goes.region ?_))
      refine GoL.stepS rfl rfl (mvI rfl ?_)
      refine GoL.stepS rfl rfl (r_addR ((j + 1 : Nat) : Int) rfl rfl (by first | omega | (dsimp only; omega)) (by first | omega | (dsimp only; omega)) (by first | omega | (dsimp only; omega)) ?_)
      refine GoL.stepS rfl rfl (asI rfl ?_)
      refine GoL.nil ?_
      exact again2 (j + 1, M46) _ _ ⟨rfl, trivial⟩ (.of_strip (by kernel_rfl)) ⟨by first | omega | (dsimp only; omega), hM2.trans (hM41.trans hM46), H⟩ (by first | omega | (dsimp only; omega))
    · refine Goes.exit rfl (Goes.inBlock (Goes.region ?_))
      refine GoL.stepS rfl rfl (mvI rfl ?_)
      refine GoL.stepS rfl rfl (r_addR (((i + 1 : Nat) : Int) - 1) rfl rfl (by first | omega | (dsimp only; omega)) (by first | omega | (dsimp only; omega)) (by first | omega | (dsimp only; omega)) ?_)
      refine GoL.stepS rfl rfl (asI rfl ?_)
      refine GoL.nil ?_
      exact again (i + 1, M2) _ _ ⟨rfl, trivial⟩ (.of_strip (by kernel_rfl)) ⟨by first | omega | (dsimp only; omega), hM1.trans (hM22.trans (hM25.trans hM2)), H⟩ (by first | omega | (dsimp only; omega))
  · refine Goes.exit rfl (Goes.seq (Goes.region ?_))
    refine GoL.stepS rfl rfl (r_call0 hdr cc14 (known_spec (hTK.mono hM1) (hmK.mono hM1)) H ?_); clear H; rintro v48 M48 L48 w hM48 ⟨rfl, rfl⟩ H
    refine GoL.stepS rfl rfl (mvB rfl ?_)
    refine GoL.stepYS rfl rfl rfl (ldA tt24 rfl (H.ro (hM48 _ _ (hM1 _ _ hb5))) rfl (by rfl) ?_)
    refine GoL.stepYS rfl rfl rfl (mvI rfl ?_)
    refine GoL.stepYS rfl rfl rfl (r_call cc49 (prow_spec ((hfK.p.mono hM1).mono hM48) hb.1 hb.2) H ?_); clear H; rintro v52 M52 L52 w hM52 ⟨rfl, a52, c52, vs52, rfl, hc52, hr52, hv52, hw52⟩ H
    refine GoL.stepYS rfl rfl rfl (r_lenSlice tt81 rfl ?_)
    refine GoL.stepYS rfl rfl rfl (mvL rfl ?_)
    refine GoL.stepYS rfl rfl rfl (mvI rfl ?_)
    refine GoL.stepYS rfl rfl rfl (r_call cc50 (rrow_spec (((hfK.r.mono hM1).mono hM48).mono hM52) (by first | omega | (dsimp only; omega))) H ?_); clear H; rintro v56 M56 L56 w hM56 ⟨rfl, a56, c56, vs56, rfl, hc56, hr56, hv56, hw56⟩ H
    refine GoL.stepYS rfl rfl rfl (r_lenSlice tt83 rfl ?_)
    refine GoL.stepYS rfl rfl rfl (r_eqlT rfl rfl (by have := hw52.uniq hw56; omega) ?_)
    refine GoL.stepS rfl rfl (r_pickB rfl rfl rfl ?_)
    refine GoL.stepS rfl rfl (asB rfl ?_)
    refine GoL.nil ?_
    exact Goes.ret (ret1 (v := .bool _) rfl rfl rfl H.nil rfl)

end Go.Proofs.YtlcpdkckldlceaaGreatDoor
namespace Go.Proofs.YtlcpdkckldlceaaGreatDoor
open Go.Sx Go.ChangeShapes Go.WideShapes Go.Proofs Go.ChangeMaps
set_option maxRecDepth 100000
section
variable {H : Type} {enc : TypeId × Value → H} {W : World} {base : Nat} {v : Value} {d : DataW H} {ps : List MemPlace}

theorem i64_of (hval : Value.okWide Tryz.prog W .any base 3 v) (hd : DataW.Trod enc Tryz.prog W 0 (fun _ => true) true 3 v d ps) :
    ∃ n : Int, v = .int .i64 n ∧ -9223372036854775808 ≤ n ∧ n ≤ 9223372036854775807 := by
  obtain ⟨n, rfl, _, _, hw⟩ := open_int Tryz.underlying3 hval hd
  exact ⟨n, rfl, bounds_i64 hw⟩
theorem u64_of (hval : Value.okWide Tryz.prog W .any base 51 v) (hd : DataW.Trod enc Tryz.prog W 0 (fun _ => true) true 51 v d ps) :
    ∃ n : Nat, v = .int .u64 (n : Int) ∧ n < 18446744073709551616 := by
  obtain ⟨n, rfl, _, _, hw⟩ := open_int Tryz.underlying51 hval hd
  have := bounds_u64 hw
  exact ⟨n.toNat, by rw [Int.toNat_of_nonneg this.1], by omega⟩
theorem string_of (hval : Value.okWide Tryz.prog W .any base 9 v) (hd : DataW.Trod enc Tryz.prog W 0 (fun _ => true) true 9 v d ps) :
    ∃ s : List UInt8, v = .string ⟨s.toArray⟩ ∧ s.length ≤ maxLen := by
  obtain ⟨s, rfl, _, _, hs⟩ := open_string Tryz.underlying9 hval hd
  refine ⟨s.data.toList, rfl, ?_⟩
  rw [Array.length_toList]
  exact hs
theorem cells3 : Tryz.prog.cellsOf 3 = 1 := by kernel_rfl
theorem cells46 : Tryz.prog.cellsOf 46 = 2 := by kernel_rfl
theorem cells62 : Tryz.prog.cellsOf 62 = 2 := by kernel_rfl
theorem pair_of {t e : TypeId} {k : IntKind} (ht : Tryz.prog.underlying t = some (.array 2 e)) (he : Tryz.prog.underlying e = some (.int k)) (hct : Tryz.prog.cellsOf t = 2) (hce : Tryz.prog.cellsOf e = 1)
    (hval : Value.okWide Tryz.prog W .any base t v) (hd : DataW.Trod enc Tryz.prog W 0 (fun _ => true) true t v d ps) :
    ∃ n m : Int, v = .agg #[.int k n, .int k m] ∧ (Lit.int k n).wf = true ∧ (Lit.int k m).wf = true := by
  unfold Value.okWide at hval
  rw [ht] at hval
  obtain ⟨cs, rfl, hsz, _⟩ := hval
  rw [hct] at hsz
  obtain ⟨fuel, hf⟩ := hd
  obtain ⟨xs, m, _, _, _, hlen, hx⟩ := DataW.trod_array ht hf
  obtain ⟨a, b, rfl⟩ : ∃ a b, cs = #[a, b] := by
    obtain ⟨l⟩ := cs
    match l, hsz with
    | [a, b], _ => exact ⟨a, b, rfl⟩
  obtain ⟨x0, x1, rfl⟩ : ∃ a b, xs = [a, b] := by
    match xs, hlen with
    | [a, b], _ => exact ⟨a, b, rfl⟩
  have h0 := hx 0 (by decide)
  have h1 := hx 1 (by decide)
  rw [hce] at h0 h1
  obtain ⟨n0, e0, w0⟩ := int_cell he rfl h0
  obtain ⟨n1, e1, w1⟩ := int_cell he rfl h1
  obtain rfl : a = .int k n0 := by simpa [Value.cells] using e0
  obtain rfl : b = .int k n1 := by simpa [Value.cells] using e1
  exact ⟨n0, n1, rfl, w0, w1⟩
theorem pairI_of (hval : Value.okWide Tryz.prog W .any base 62 v) (hd : DataW.Trod enc Tryz.prog W 0 (fun _ => true) true 62 v d ps) :
    ∃ n m : Int, v = .agg #[.int .i64 n, .int .i64 m] ∧ (-9223372036854775808 ≤ n ∧ n ≤ 9223372036854775807) ∧ (-9223372036854775808 ≤ m ∧ m ≤ 9223372036854775807) := by
  obtain ⟨n, m, h, h1, h2⟩ := pair_of Tryz.underlying62 Tryz.underlying3 cells62 cells3 hval hd
  exact ⟨n, m, h, bounds_i64 h1, bounds_i64 h2⟩
theorem pairU_of (hval : Value.okWide Tryz.prog W .any base 46 v) (hd : DataW.Trod enc Tryz.prog W 0 (fun _ => true) true 46 v d ps) :
    ∃ n m : Nat, v = .agg #[.int .u16 (n : Int), .int .u16 (m : Int)] ∧ n < 65536 ∧ m < 65536 := by
  obtain ⟨n, m, h, h1, h2⟩ := pair_of Tryz.underlying46 Tryz.underlying45 cells46 cells45 hval hd
  have b1 := bounds_u16 h1
  have b2 := bounds_u16 h2
  exact ⟨n.toNat, m.toNat, by rw [Int.toNat_of_nonneg b1.1, Int.toNat_of_nonneg b2.1]; exact h, by omega, by omega⟩
end
end Go.Proofs.YtlcpdkckldlceaaGreatDoor
namespace Go.Proofs.YtlcpdkckldlceaaGreatDoor.coefficients
open Go.Sx Go.ChangeShapes Go.WideShapes Go.ChangeAt Go.RowKit
set_option maxRecDepth 100000

/-- WHAT THE WALK GIVES, FOR EVERY ARGUMENT AND EVERY WORLD. -/
theorem contract (H : Type) (enc : TypeId × Value → H) (W : World) (base : Nat) (args : Array Value) (ds gs : List (DataW H)) (before : List MemPlace)
    (hval : ∀ (j : Nat) t v, Tryz.f11.params[j]? = some t → args[j]? = some v → Value.okWide Tryz.prog W .any base t v)
    (hW : DataW.Whole enc Tryz.prog Tryz.f11.params.toList Rows.polynomialCoefficientsSpec.vars false W args.toList ds gs before) (hL : laidMetH Tryz.prog Rows.polynomialCoefficientsRow.laid W) (hsh : W.ShapedOpen Tryz.prog) :
    Calls Tryz.prog 11 args W fun e W' => ∃ v, e = .returned v ∧ Rows.polynomialCoefficientsSpec.post enc Tryz.prog Tryz.f11 false true false false W args v W' := by
  have hW' := hW
  obtain ⟨p, q, hA, hV, rfl, hfz, hnd⟩ := hW
  rw [Tryz.params11] at hA hval
  have hA : DataW.TrodAll enc Tryz.prog W 0 (fun _ => true) true [36, 3] args.toList ds p := hA
  obtain ⟨v0, vs0, d0, ds0, p0, q0, hargs, rfl, rfl, h0, r0⟩ := trodAll_cons hA
  obtain ⟨v1, vs1, d1, ds1, p1, q1, rfl, rfl, rfl, h1, r1⟩ := trodAll_cons r0
  obtain ⟨rfl, rfl, rfl⟩ := trodAll_nil r1
  obtain rfl : args = #[v0, v1] := by cases args; simp_all
  obtain ⟨t0, a0⟩ := argT_of (hval 0 36 v0 rfl rfl) h0
  obtain ⟨n1, rfl, hn1⟩ := i64_of (hval 1 3 v1 rfl rfl) h1
  have hT : TabM (ofW W) := tabM_of hL
  refine (Sp0.world (coefficients_law hT (maxM_of hsh) a0 hn1)).mono fun e W' ⟨he, hS, hos, hout⟩ => ?_
  subst he
  exact ⟨_, rfl, post_true (L := [36, 70, 68, 45, 4, 51, 62, 3, 46, 9]) hS (by kernel_rfl) (by rw [Tryz.params11]; decide) hos hout hW' rfl (tb := 4) (by kernel_rfl) Tryz.underlying4 rfl⟩

theorem reads (os : Os) {H : Type} (enc : TypeId × Value → H) : ∃ places, DataW.whole enc Tryz.prog (startW os #[.slice none 0 0, .int .i64 0]).memory Tryz.f11.params.toList Rows.polynomialCoefficientsSpec.vars false #[Value.slice none 0 0, .int .i64 0].toList 8 = some ([.nil, .lit (.int .i64 0)], [], places) :=
  ⟨[], by kernel_rfl⟩

theorem lifted (os : Os) (started : os.Started) (H : Type) (enc : TypeId × Value → H) (F : Stop.Interp) :
    ReturnsInHanded {} Tryz.checked os 11 .any ((OpenSpec.ofChange Rows.polynomialCoefficientsSpec).preRow enc Tryz.prog Tryz.f11 Rows.polynomialCoefficientsRow.domain false Rows.polynomialCoefficientsRow.laid) (((OpenSpec.ofChange Rows.polynomialCoefficientsSpec).at F).post enc Tryz.prog Tryz.f11 false true false false) := by
  obtain ⟨places, hx⟩ := reads os enc
  refine returnsInHanded_of_row (C := Tryz.checked) (s := OpenSpec.ofChange Rows.polynomialCoefficientsSpec) ownK started (by kernel_rfl) Tryz.func11
    (witness_row_at (enc := enc) (C := Tryz.checked) false (laidWorld os) #[.slice none 0 0, .int .i64 0] rfl (by kernel_rfl) (by kernel_rfl) (by kernel_rfl)
      (OpenSpec.preRow_of_cond 8 hx (by kernel_rfl) (fun k hk => by cases hk) (by kernel_rfl) (laid_met os _))) ?_
  intro W base args ds gs before hval hW _ _ _ hL hsh _
  exact contract H enc W base args ds gs before hval hW hL hsh

theorem said : Rows.PolynomialCoefficientsSaid :=
  OpenClaim.holds_of_cond 11 Tryz.f11 rfl rfl rfl rfl rfl rfl rfl ⟨rfl, rfl, rfl, rfl, rfl⟩ rfl rfl rfl rfl rfl (by kernel_rfl) Tryz.func11 (by kernel_rfl)
    (of_decide_eq_true (by kernel_rfl)) (by unfold Func.isWrapper; first | (rw [if_pos (by decide +kernel)]; kernel_rfl) | (rw [if_neg (by decide +kernel)]; exact ⟨rfl, rfl⟩))
    (fun os started H enc _ F => by rw [OpenClaim.pre_eq_preRow]; exact lifted os started H enc F)

/-- No parameter wants a stand-in; the program's own looks. -/
theorem plain (f : FuncId) (fn : Func) (hf : Tryz.pinned.checked.prog.funcNamed "palmette/palmettelaw40.PolynomialCoefficients" = some f) (hfn : Tryz.pinned.checked.prog.funcs[f]? = some fn) :
    true = Tryz.pinned.checked.prog.looks [] ∧ ∀ (j : Nat) t, fn.params[j]? = some t → Tryz.pinned.checked.prog.wantsStandIn t = false := by
  obtain rfl : f = 11 := Option.some.inj ((show Tryz.prog.funcNamed "palmette/palmettelaw40.PolynomialCoefficients" = some 11 by kernel_rfl).symm.trans hf) |>.symm
  obtain rfl : fn = Tryz.f11 := (Option.some.inj (Tryz.func11.symm.trans hfn)).symm
  refine ⟨by kernel_rfl, fun j t ht => ?_⟩
  have hall : (#[36, 3] : Array TypeId).all (fun t => Tryz.prog.wantsStandIn t == false) = true := by kernel_rfl
  rw [Tryz.params11] at ht
  have := Array.all_eq_true_iff_forall_mem.1 hall t (Array.mem_of_getElem? ht)
  exact (show Tryz.prog.wantsStandIn t = false by simpa using this)

/-- THE CARD. -/
theorem card : Rows.PolynomialCoefficientsCardSaid :=
  Claim7.holds_tied_plain_at .later [] _ _ _ _ said (fun _ h => by cases h) (by kernel_rfl) (fun _ h => by cases h) polynomialCoefficients_row_tie rfl ⟨rfl, rfl⟩ (by kernel_rfl) rfl plain (by kernel_rfl)
end Go.Proofs.YtlcpdkckldlceaaGreatDoor.coefficients
