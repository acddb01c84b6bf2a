/-
  The statement PolynomialDerivative holds for every input, the listed library variables holding what their initialisers lay: it returns true and leaves its arguments as they were.
-/
import Derived.Test.YtlcpdkckldlceaaGreatDoorFL
import Derived.Test.YtlcpdkckldlceaaGreatDoorFM
import Derived.Test.YtlcpdkckldlceaaGreatDoorRows
import Derived.SevenTiedAt
import Derived.JoinedCond
namespace Go.Proofs.YtlcpdkckldlceaaGreatDoor
open Go.Sx Go.Nat32 Go.Dec Go.PolyL Go.Lib Go.Proofs
attribute [local irreducible] pt sl itc itm
set_option maxRecDepth 100000
set_option linter.unusedVariables false
set_option linter.unusedSimpArgs false
set_option maxHeartbeats 1000000

theorem conv_lt {f g : Nat → Nat → Nat} {k : Nat} (hf : ∀ a b, f a b < 10 ^ k) (hg : ∀ a b, g a b < 10 ^ k) (a b : Nat) : conv f g a b < 10 ^ (2 * k + 14) := by
  have h1 := conv_le (f := f) (g := g) (c := 10 ^ k * 10 ^ k) (fun a b d e => Nat.mul_le_mul (Nat.le_of_lt (hf a b)) (Nat.le_of_lt (hg d e))) a b
  have h2 : (10 : Nat) ^ (2 * k + 14) = 10 ^ k * 10 ^ k * 100000000000000 := by
    rw [Nat.pow_add, Nat.two_mul, Nat.pow_add]
  have h3 : 0 < 10 ^ k * 10 ^ k := Nat.mul_pos (Nat.pow_pos (by decide)) (Nat.pow_pos (by decide))
  rw [h2]
  generalize 10 ^ k * 10 ^ k = z at *
  omega
theorem conv_lim {f g : Nat → Nat → Nat} {k l : Nat} (hf : ∀ a b, lim k (f a b)) (hg : ∀ a b, lim l (g a b)) (a b : Nat) : lim (k + l + 2) (conv f g a b) := by
  have h1 := conv_le (f := f) (g := g) (c := 4294967296 ^ k * 4294967296 ^ l) (fun a b d e => Nat.mul_le_mul (Nat.le_of_lt (hf a b)) (Nat.le_of_lt (hg d e))) a b
  unfold lim
  have h2 : (4294967296 : Nat) ^ (k + l + 2) = 4294967296 ^ k * 4294967296 ^ l * 18446744073709551616 := by
    rw [Nat.pow_add, Nat.pow_add]
  have h3 : 0 < 4294967296 ^ k * 4294967296 ^ l := Nat.mul_pos (Nat.pow_pos (by decide)) (Nat.pow_pos (by decide))
  rw [h2]
  generalize 4294967296 ^ k * 4294967296 ^ l = z at *
  omega

theorem Made.shapes {M : RO} {v u : Value} {f : Nat → Nat → Nat} {most m : Nat} (h : Made M v u f most m) : ∃ q a n c, v = .agg #[.map q] ∧ u = .slice a n c := by
  obtain ⟨q, hq⟩ := h.p.shape
  obtain ⟨a, n, c, hu⟩ := h.r.shape
  exact ⟨q, a, n, c, hq, hu⟩

theorem sumProduct_law {M : RO} (hT : TabM M) (hm : MaxM M) {va vb : Value} {ta tb : List (Nat × Nat × Nat)} {small : Bool} (ha : ArgT M va ta) (hb : ArgT M vb tb) :
    Sp0 Tryz.prog 4 [va, vb, .bool small] M [] fun r _ _ => r = .bool true := by
  have ha' := ha
  have hb' := hb
  obtain ⟨aa, ac, rfl, _⟩ := ha.shape
  obtain ⟨ba, bc, rfl, _⟩ := hb.shape
  refine Sp0.enter (n := 54) Tryz.func4 rfl Tryz.ntmps4 rfl ?_
  intro E hdr hE H
  subst hE
  refine Goes.seq (Goes.region ?_)
  refine GoL.stepS rfl rfl (asB rfl ?_)
  refine GoL.nil ?_
  refine Goes.seq (Goes.region ?_)
  refine GoL.stepS rfl rfl (asI rfl ?_)
  refine GoL.nil ?_
  refine Goes.seq (Goes.seq (Goes.region ?_))
  refine GoL.stepS rfl rfl (mvB rfl ?_)
  refine GoL.nil ?_
  refine Goes.cutT [7] [(7, .int .i64 2048)] (fun (most : Nat) => [(7, .int .i64 (most : Int))]) (fun most w => most ≤ 2048 ∧ Hp E E.M [] w) ⟨rfl, trivial⟩ ?aft ?cut
  case cut =>
    intro f0 meet
    refine Goes.cond rfl (fun hs => ?_) (fun hs => ?_)
    · refine Goes.region ?_
      refine GoL.stepS rfl rfl (asI rfl ?_)
      refine GoL.nil ?_
      exact meet 3 _ _ ⟨rfl, trivial⟩ (.of_strip (by kernel_rfl)) ⟨by decide, H⟩
    · refine Goes.skip ?_
      exact meet 2048 _ _ ⟨rfl, trivial⟩ (.of_strip (by kernel_rfl)) ⟨Nat.le_refl _, H⟩
  case aft =>
    clear H
    rintro most f1 w ⟨hmost, H⟩
    refine Goes.seq (Goes.region ?_)
    refine GoL.stepS rfl rfl (mvL rfl ?_)
    refine GoL.stepS rfl rfl (mvI rfl ?_)
    refine GoL.stepS rfl rfl (r_call cc17 (made40_spec ha' hmost) H ?_); clear H; rintro v16 M16 L16 w hM16 ⟨rfl, p16, u16, f, rfl, hf⟩ H
    obtain ⟨q16, a16, n16, c16, rfl, rfl⟩ := hf.shapes
    refine GoL.stepS rfl rfl (mvT rfl ?_)
    refine GoL.stepS rfl rfl (r_extract rfl rfl ?_)
    refine GoL.stepS rfl rfl (r_extract rfl rfl ?_)
    refine GoL.stepS rfl rfl (r_alloc tt24 H ?_); clear H; intro b8 w hb8 H
    refine GoL.step0 rfl (stA tt24 rfl rfl H (by repeat constructor) rfl rfl (by rfl) ?_); clear H; intro w H
    refine GoL.stepS rfl rfl (asL rfl ?_)
    refine GoL.nil ?_
    refine Goes.seq (Goes.region ?_)
    refine GoL.stepS rfl rfl (mvL rfl ?_)
    refine GoL.stepS rfl rfl (mvI rfl ?_)
    refine GoL.stepS rfl rfl (r_call cc17 (made40_spec (hb'.mono hM16) hmost) H ?_); clear H; rintro v22 M22 L22 w hM22 ⟨rfl, p22, u22, g, rfl, hg⟩ H
    obtain ⟨q22, a22, n22, c22, rfl, rfl⟩ := hg.shapes
    have hf := hf.mono hM22
    have hfg : ∀ a b, f a b + g a b < 10 ^ 12 := fun a b => by
      have h1 := hf.lt a b
      have h2 := hg.lt a b
      have h3 : (10 : Nat) ^ 11 = 100000000000 := rfl
      have h4 : (10 : Nat) ^ 12 = 1000000000000 := rfl
      rw [h3] at h1 h2; rw [h4]; omega
    have gT : TabM M22 := (hT.mono hM16).mono hM22
    have gle : ∀ {A B C D F G J : RO}, A.le B → B.le C → C.le D → D.le F → F.le G → G.le J → A.le J := fun h1 h2 h3 h4 h5 h6 b o h => h6 _ _ (h5 _ _ (h4 _ _ (h3 _ _ (h2 _ _ (h1 _ _ h)))))
    refine GoL.stepS rfl rfl (mvT rfl ?_)
    refine GoL.stepS rfl rfl (r_extract rfl rfl ?_)
    refine GoL.stepS rfl rfl (r_extract rfl rfl ?_)
    refine GoL.stepS rfl rfl (r_alloc tt24 H ?_); clear H; intro b10 w hb10 H
    refine GoL.step0 rfl (stA tt24 rfl rfl H (by repeat constructor) rfl rfl (by rfl) ?_); clear H; intro w H
    refine GoL.stepS rfl rfl (asL rfl ?_)
    refine GoL.nil ?_
    refine Goes.seq (Goes.region ?_)
    refine GoL.stepS rfl rfl (r_call0 hdr cc14 (known_spec ((hT.mono hM16).mono hM22) ((hm.mono hM16).mono hM22)) H ?_); clear H; rintro v25 M25 L25 w hM25 ⟨rfl, rfl⟩ H
    refine GoL.stepS rfl rfl (mvB rfl ?_)
    refine GoL.stepYS rfl rfl rfl (ldA tt24 rfl (H.own (by repeat constructor)) rfl (by rfl) ?_)
    refine GoL.stepYS rfl rfl rfl (ldA tt24 rfl (H.own (by repeat constructor)) rfl (by rfl) ?_)
    refine GoL.stepYS rfl rfl rfl (r_call cc18 (padd_spec (hf.p.mono hM25) (hg.p.mono hM25) hf.lim hg.lim (by first | omega | (dsimp only; omega))) H ?_); clear H; rintro v29 M29 L29 w hM29 ⟨rfl, h29⟩ H
    refine GoL.stepYS rfl rfl rfl (mvL rfl ?_)
    refine GoL.stepYS rfl rfl rfl (mvL rfl ?_)
    refine GoL.stepYS rfl rfl rfl (r_call cc19 (radd40_spec (((hf.r.mono hM25)).mono hM29) ((hg.r.mono hM25).mono hM29) (k := 12) (by first | omega | (dsimp only; omega)) hfg (by first | omega | (dsimp only; omega))) H ?_); clear H; rintro v32 M32 L32 w hM32 ⟨rfl, h32⟩ H
    refine GoL.stepYS rfl rfl rfl (r_call0 hdr cc15 (alike_spec (((gT.mono hM25).mono hM29).mono hM32) (h29.mono hM32) h32 (k := 12) (by first | omega | (dsimp only; omega)) hfg (by first | omega | (dsimp only; omega))) H ?_); clear H; rintro v33 M33 L33 w hM33 ⟨rfl, rfl⟩ H
    refine GoL.stepS rfl rfl (r_pickB rfl rfl rfl ?_)
    refine GoL.stepS rfl rfl (mvB rfl ?_)
    refine GoL.stepYS rfl rfl rfl (ldA tt24 rfl (H.own (by repeat constructor)) rfl (by rfl) ?_)
    refine GoL.stepYS rfl rfl rfl (ldA tt24 rfl (H.own (by repeat constructor)) rfl (by rfl) ?_)
    refine GoL.stepYS rfl rfl rfl (r_call cc20 (pmul_spec (((((hf.p.mono hM25).mono hM29).mono hM32)).mono hM33) ((((hg.p.mono hM25).mono hM29).mono hM32).mono hM33) hf.lim hg.lim (by first | omega | (dsimp only; omega))) H ?_); clear H; rintro v38 M38 L38 w hM38 ⟨rfl, h38⟩ H
    refine GoL.stepYS rfl rfl rfl (mvL rfl ?_)
    refine GoL.stepYS rfl rfl rfl (mvL rfl ?_)
    refine GoL.stepYS rfl rfl rfl (r_call cc21 (rmul40_spec (((((hf.r.mono hM25).mono hM29).mono hM32).mono hM33).mono hM38) (((((hg.r.mono hM25).mono hM29).mono hM32).mono hM33).mono hM38) (k := 11) (by first | omega | (dsimp only; omega)) hf.lt hg.lt (by first | omega | (dsimp only; omega)) (by first | omega | (dsimp only; omega))) H ?_); clear H; rintro v41 M41 L41 w hM41 ⟨rfl, h41⟩ H
    refine GoL.stepYS rfl rfl rfl (r_call0 hdr cc15 (alike_spec ((((((gT.mono hM25).mono hM29).mono hM32).mono hM33).mono hM38).mono hM41) (h38.mono hM41) h41 (k := 36) (by first | omega | (dsimp only; omega)) (conv_lt (k := 11) hf.lt hg.lt) (by first | omega | (dsimp only; omega))) H ?_); clear H; rintro v42 M42 L42 w hM42 ⟨rfl, rfl⟩ H
    refine GoL.stepS rfl rfl (r_pickB rfl rfl rfl ?_)
    refine GoL.stepS rfl rfl (mvB rfl ?_)
    refine GoL.stepYS rfl rfl rfl (ldA tt24 rfl (H.own (by repeat constructor)) rfl (by rfl) ?_)
    refine GoL.stepYS rfl rfl rfl (mvL rfl ?_)
    refine GoL.stepYS rfl rfl rfl (r_call0 hdr cc15 (alike_spec ((gT.mono (gle hM25 hM29 hM32 hM33 hM38 hM41)).mono hM42) ((hf.p.mono (gle hM25 hM29 hM32 hM33 hM38 hM41)).mono hM42) ((hf.r.mono (gle hM25 hM29 hM32 hM33 hM38 hM41)).mono hM42) (k := 11) (by first | omega | (dsimp only; omega)) hf.lt (by first | omega | (dsimp only; omega))) H ?_); clear H; rintro v47 M47 L47 w hM47 ⟨rfl, rfl⟩ H
    refine GoL.stepS rfl rfl (r_pickB rfl rfl rfl ?_)
    refine GoL.stepS rfl rfl (mvB rfl ?_)
    refine GoL.stepYS rfl rfl rfl (ldA tt24 rfl (H.own (by repeat constructor)) rfl (by rfl) ?_)
    refine GoL.stepYS rfl rfl rfl (mvL rfl ?_)
    refine GoL.stepYS rfl rfl rfl (r_call0 hdr cc15 (alike_spec (((gT.mono (gle hM25 hM29 hM32 hM33 hM38 hM41)).mono hM42).mono hM47) (((hg.p.mono (gle hM25 hM29 hM32 hM33 hM38 hM41)).mono hM42).mono hM47) (((hg.r.mono (gle hM25 hM29 hM32 hM33 hM38 hM41)).mono hM42).mono hM47) (k := 11) (by first | omega | (dsimp only; omega)) hg.lt (by first | omega | (dsimp only; omega))) H ?_); clear H; rintro v52 M52 L52 w hM52 ⟨rfl, rfl⟩ H
    refine GoL.stepS rfl rfl (r_pickB rfl rfl rfl ?_)
    refine GoL.stepS rfl rfl (asB rfl ?_)
    refine GoL.nil ?_
    exact Goes.ret (ret1 (v := .bool _) rfl rfl rfl H.nil rfl)

end Go.Proofs.YtlcpdkckldlceaaGreatDoor
namespace Go.Proofs.YtlcpdkckldlceaaGreatDoor
open Go.Sx Go.Nat32 Go.Dec Go.PolyL Go.Lib Go.Proofs
set_option maxRecDepth 100000
set_option linter.unusedVariables false
set_option linter.unusedSimpArgs false

theorem evalF_conv {f g : Nat → Nat → Nat} {d : Nat} (hf : ExpLe f d) (hg : ExpLe g d) (hd : 2 * d ≤ 2048) (x y : Nat) : evalF (conv f g) x y = evalF f x y * evalF g x y := by
  unfold evalF
  have h1 : ∀ k ∈ box, conv f g k.1 k.2 * x ^ k.1 * y ^ k.2 = sumL box fun s => sumL box fun t => if k = (s.1 + t.1, s.2 + t.2) then f s.1 s.2 * x ^ s.1 * y ^ s.2 * (g t.1 t.2 * x ^ t.1 * y ^ t.2) else 0 := by
    intro k hk
    rw [conv, if_pos (mem_box.1 hk), Nat.mul_assoc, ← sumL_mulr]
    refine sumL_congr fun s _ => ?_
    rw [← sumL_mulr]
    refine sumL_congr fun t _ => ?_
    by_cases h : s.1 + t.1 = k.1 ∧ s.2 + t.2 = k.2
    · rw [if_pos h, if_pos (Prod.ext h.1.symm h.2.symm), ← h.1, ← h.2, Nat.pow_add, Nat.pow_add]
      simp only [Nat.mul_assoc, Nat.mul_comm, Nat.mul_left_comm]
    · rw [if_neg h, if_neg (fun e => h (by rw [e]; exact ⟨rfl, rfl⟩)), Nat.zero_mul]
  rw [sumL_congr h1, sumL_comm, ← sumL_mulr]
  refine sumL_congr fun s _ => ?_
  rw [sumL_comm, ← sumL_mul]
  refine sumL_congr fun t _ => ?_
  rw [sumL_ite nodup_box]
  by_cases h : (s.1 + t.1, s.2 + t.2) ∈ box
  · rw [if_pos h]
  · rw [if_neg h]
    by_cases h2 : f s.1 s.2 = 0
    · rw [h2]; simp
    · by_cases h3 : g t.1 t.2 = 0
      · rw [h3]; simp
      · have e1 := hf _ _ h2
        have e2 := hg _ _ h3
        exact absurd (mem_box.2 ⟨by show s.1 + t.1 ≤ 2048; omega, by show s.2 + t.2 ≤ 2048; omega⟩) h

/-- The product, nothing left out. -/
def full (f g : Nat → Nat → Nat) (a b : Nat) : Nat := sumL box fun s => sumL box fun t => if s.1 + t.1 = a ∧ s.2 + t.2 = b then f s.1 s.2 * g t.1 t.2 else 0
theorem conv_full {f g : Nat → Nat → Nat} {d : Nat} (hf : ExpLe f d) (hg : ExpLe g d) (hd : 2 * d ≤ 2048) (a b : Nat) : conv f g a b = full f g a b := by
  unfold conv full
  split
  · rfl
  · rename_i hab
    symm
    refine sumL_zero fun s _ => sumL_zero fun t _ => ?_
    split
    · rename_i h
      by_cases h2 : f s.1 s.2 = 0
      · rw [h2, Nat.zero_mul]
      · by_cases h3 : g t.1 t.2 = 0
        · rw [h3, Nat.mul_zero]
        · have e1 := hf _ _ h2
          have e2 := hg _ _ h3
          omega
    · rfl
theorem sum_box (F : Nat → Nat → Nat) : (sumL box fun k => F k.1 k.2) = sumL (List.range 2049) fun a => sumL (List.range 2049) fun b => F a b := by
  have : ∀ l : List Nat, (sumL (l.flatMap fun a => (List.range 2049).map fun b => (a, b)) fun k => F k.1 k.2) = sumL l fun a => sumL (List.range 2049) fun b => F a b := by
    intro l
    induction l with
    | nil => rfl
    | cons x l ih => rw [List.flatMap_cons, sumL_append, ih, sumL_cons, sumL_map]
  exact this _
theorem sum_shift (G : Nat → Nat) : ∀ n, sumL (List.range n) (fun a => G (a + 1)) + G 0 = sumL (List.range n) G + G n
  | 0 => by simp [sumL]
  | n + 1 => by
    have := sum_shift G n
    rw [List.range_succ, sumL_snoc, sumL_snoc]
    omega
theorem range_shift {G : Nat → Nat → Nat} {n m : Nat} (h0 : ∀ b, G 0 b = 0) (h1 : ∀ b, G n b = 0) : (sumL (List.range n) fun a => sumL (List.range m) fun b => G (a + 1) b) = sumL (List.range n) fun a => sumL (List.range m) fun b => G a b := by
  have h := sum_shift (fun a => sumL (List.range m) fun b => G a b) n
  have e0 : (sumL (List.range m) fun b => G 0 b) = 0 := sumL_zero fun b _ => h0 b
  have e1 : (sumL (List.range m) fun b => G n b) = 0 := sumL_zero fun b _ => h1 b
  rw [e0, e1] at h
  omega
theorem box_shift {G : Nat → Nat → Nat} (h0 : ∀ b, G 0 b = 0) (h1 : ∀ b, G 2049 b = 0) : (sumL box fun k => G (k.1 + 1) k.2) = sumL box fun k => G k.1 k.2 := by
  rw [sum_box fun a b => G (a + 1) b, sum_box G]
  exact range_shift h0 h1
theorem diff_exp {f : Nat → Nat → Nat} {d : Nat} (hf : ExpLe f d) : ExpLe (diffF f) d := by
  intro a b h
  have : f (a + 1) b ≠ 0 := fun e => h (by unfold diffF; rw [e, Nat.zero_mul])
  have := hf _ _ this
  omega
theorem full_diff {f g : Nat → Nat → Nat} {d : Nat} (hf : ExpLe f d) (hd : d ≤ 2048) (a b : Nat) : full (diffF f) g a b = sumL box fun s => sumL box fun t => if s.1 + t.1 = a + 1 ∧ s.2 + t.2 = b then f s.1 s.2 * s.1 * g t.1 t.2 else 0 := by
  unfold full
  rw [← box_shift (G := fun u v => sumL box fun t => if u + t.1 = a + 1 ∧ v + t.2 = b then f u v * u * g t.1 t.2 else 0)]
  · refine sumL_congr fun s _ => sumL_congr fun t _ => ?_
    by_cases h : s.1 + t.1 = a ∧ s.2 + t.2 = b
    · rw [if_pos h, if_pos (by omega)]; rfl
    · rw [if_neg h, if_neg (by omega)]
  · intro v
    exact sumL_zero fun t _ => by split <;> simp
  · intro v
    refine sumL_zero fun t _ => ?_
    have : f 2049 v = 0 := by
      by_cases h : f 2049 v = 0
      · exact h
      · have := hf _ _ h; omega
    rw [this]; split <;> simp
theorem diff_conv {f g : Nat → Nat → Nat} {d : Nat} (hf : ExpLe f d) (hg : ExpLe g d) (hd : 2 * d ≤ 2048) : diffF (conv f g) = fun a b => conv (diffF f) g a b + conv f (diffF g) a b := by
  funext a b
  rw [conv_comm f (diffF g), conv_full (diff_exp hf) hg hd, conv_full (diff_exp hg) hf hd, full_diff hf (by omega), full_diff hg (by omega)]
  show conv f g (a + 1) b * (a + 1) = _
  rw [conv_full hf hg hd, sumL_comm box box (fun s t => if s.1 + t.1 = a + 1 ∧ s.2 + t.2 = b then g s.1 s.2 * s.1 * f t.1 t.2 else 0), ← sumL_add]
  unfold full
  rw [← sumL_mulr]
  refine sumL_congr fun s _ => ?_
  rw [← sumL_mulr, ← sumL_add]
  refine sumL_congr fun t _ => ?_
  by_cases h : s.1 + t.1 = a + 1 ∧ s.2 + t.2 = b
  · rw [if_pos h, if_pos h, if_pos (by omega), ← h.1, Nat.mul_add]
    simp only [Nat.mul_assoc, Nat.mul_comm, Nat.mul_left_comm]
  · rw [if_neg h, if_neg h, if_neg (by omega), Nat.zero_mul]
end Go.Proofs.YtlcpdkckldlceaaGreatDoor
namespace Go.Proofs.YtlcpdkckldlceaaGreatDoor
open Go.Sx Go.Nat32 Go.Dec Go.PolyL Go.Lib Go.Proofs
attribute [local irreducible] pt sl itc itm
set_option maxRecDepth 100000
set_option linter.unusedVariables false
set_option linter.unusedSimpArgs false
set_option maxHeartbeats 1000000

theorem diff_lim {f : Nat → Nat → Nat} {k : Nat} (hf : Boxed f) (lf : ∀ a b, lim k (f a b)) (a b : Nat) : lim (k + 1) (diffF f a b) := by
  unfold diffF
  by_cases h : f (a + 1) b = 0
  · rw [h, Nat.zero_mul]; unfold Go.Nat32.lim; exact Nat.pow_pos (by decide)
  · have := (hf _ _ h).1
    exact (lf _ _).mul (show Go.Nat32.lim 1 (a + 1) by unfold Go.Nat32.lim; omega)
theorem diff_lt {f : Nat → Nat → Nat} (hf : Boxed f) (lf : ∀ a b, f a b < 10 ^ 11) (a b : Nat) : diffF f a b < 10 ^ 15 := by
  unfold diffF
  have e11 : (10 : Nat) ^ 11 = 100000000000 := rfl
  have e15 : (10 : Nat) ^ 15 = 1000000000000000 := rfl
  by_cases h : f (a + 1) b = 0
  · rw [h, Nat.zero_mul, e15]; omega
  · have h1 := (hf _ _ h).1
    have h2 := lf (a + 1) b
    rw [e11] at h2
    rw [e15]
    have := Nat.mul_le_mul (Nat.le_of_lt h2) h1
    omega

theorem derivative_law {M : RO} (hT : TabM M) (hm : MaxM M) {va vb : Value} {ta tb : List (Nat × Nat × Nat)} (ha : ArgT M va ta) (hb : ArgT M vb tb) :
    Sp0 Tryz.prog 10 [va, vb] M [] fun r _ _ => r = .bool true := by
  have ha' := ha
  have hb' := hb
  obtain ⟨aa, ac, rfl, _⟩ := ha.shape
  obtain ⟨ba, bc, rfl, _⟩ := hb.shape
  refine Sp0.enter (n := 50) Tryz.func10 rfl Tryz.ntmps10 rfl ?_
  intro E hdr hE H
  subst hE
  refine Goes.seq (Goes.region ?_)
  refine GoL.stepS rfl rfl (asB rfl ?_)
  refine GoL.nil ?_
  refine Goes.seq (Goes.region ?_)
  refine GoL.stepS rfl rfl (mvL rfl ?_)
  refine GoL.stepS rfl rfl (r_call cc17 (made40_spec (most := 2048) ha' (by decide)) H ?_); clear H; rintro v13 M13 L13 w hM13 ⟨rfl, p13, u13, f, rfl, hf⟩ H
  refine GoL.stepS rfl rfl (mvT rfl ?_)
  obtain ⟨q13, a13, n13, c13, rfl, rfl⟩ := hf.shapes
  refine GoL.stepS rfl rfl (r_extract rfl rfl ?_)
  refine GoL.stepS rfl rfl (r_extract rfl rfl ?_)
  refine GoL.stepS rfl rfl (r_alloc tt24 H ?_); clear H; intro b5 w hb5 H
  refine GoL.step0 rfl (stA tt24 rfl rfl H (by repeat constructor) rfl rfl (by rfl) ?_); clear H; intro w H
  refine GoL.stepS rfl rfl (asL rfl ?_)
  refine GoL.nil ?_
  refine Goes.seq (Goes.region ?_)
  refine GoL.stepS rfl rfl (mvL rfl ?_)
  refine GoL.stepS rfl rfl (r_call cc17 (made40_spec (most := 9) (ha'.mono hM13) (by decide)) H ?_); clear H; rintro v18 M18 L18 w hM18 ⟨rfl, p18, u18, g, rfl, hg⟩ H
  refine GoL.stepS rfl rfl (mvT rfl ?_)
  obtain ⟨q18, a18, n18, c18, rfl, rfl⟩ := hg.shapes
  refine GoL.stepS rfl rfl (r_extract rfl rfl ?_)
  refine GoL.stepS rfl rfl (r_extract rfl rfl ?_)
  refine GoL.stepS rfl rfl (r_alloc tt24 H ?_); clear H; intro b7 w hb7 H
  refine GoL.step0 rfl (stA tt24 rfl rfl H (by repeat constructor) rfl rfl (by rfl) ?_); clear H; intro w H
  refine GoL.stepS rfl rfl (asL rfl ?_)
  refine GoL.nil ?_
  refine Goes.seq (Goes.region ?_)
  refine GoL.stepS rfl rfl (mvL rfl ?_)
  refine GoL.stepS rfl rfl (r_call cc17 (made40_spec (most := 9) ((hb'.mono hM13).mono hM18) (by decide)) H ?_); clear H; rintro v23 M23 L23 w hM23 ⟨rfl, p23, u23, h, rfl, hh⟩ H
  refine GoL.stepS rfl rfl (mvT rfl ?_)
  obtain ⟨q23, a23, n23, c23, rfl, rfl⟩ := hh.shapes
  refine GoL.stepS rfl rfl (r_extract rfl rfl ?_)
  refine GoL.stepS rfl rfl (r_extract rfl rfl ?_)
  refine GoL.stepS rfl rfl (r_alloc tt24 H ?_); clear H; intro b9 w hb9 H
  refine GoL.step0 rfl (stA tt24 rfl rfl H (by repeat constructor) rfl rfl (by rfl) ?_); clear H; intro w H
  refine GoL.stepS rfl rfl (asL rfl ?_)
  refine GoL.nil ?_
  refine Goes.seq ?_
  obtain ⟨K9, hb9, hle9, H⟩ := H.freezeX (i := 0) .head
  obtain ⟨K7, hb7, hle7, H⟩ := H.freezeX (i := 0) .head
  obtain ⟨K5, hb5, hle5, H⟩ := H.freezeX (i := 0) .head
  have lf := hf.lim
  have lg := hg.lim
  have lh := hh.lim
  refine Goes.regionDX mixed (by kernel_rfl) 26 H ?_
  refine Ver.nextX 0 (by kernel_rfl) rfl (by kernel_rfl) ?_
  clear H; intro w H
  refine r_call0 hdr cc14 (known_spec ((((((hT.mono hM13).mono hM18).mono hM23).mono hle9).mono hle7).mono hle5) ((((((hm.mono hM13).mono hM18).mono hM23).mono hle9).mono hle7).mono hle5)) H ?_
  clear H; rintro v26 M26 L26 w hM26 ⟨rfl, rfl⟩ H
  refine ⟨_, _, hM26, H, ?_⟩
  refine Ver.read (v := .bool _) 1 rfl (by kernel_rfl) (fun M' L' w hM H => mvB rfl ⟨rfl, rfl⟩) ?_
  refine Ver.readY (v := .agg _) 2 rfl (by kernel_rfl) rfl (fun M' L' w hM H => ldA tt24 rfl (H.ro (hM _ _ (hM26 _ _ hb5))) rfl (by rfl) ⟨rfl, rfl⟩) ?_
  refine Ver.readY (v := .slice _ _ _) 4 rfl (by kernel_rfl) rfl (fun M' L' w hM H => mvL rfl ⟨rfl, rfl⟩) ?_
  refine Ver.nextXY 3 (by kernel_rfl) rfl (by kernel_rfl) rfl ?_
  clear H; intro w H
  refine r_call cc47 (pdiff_spec (k := 2) ((((((hf.p.mono hM18).mono hM23).mono hle9).mono hle7).mono hle5).mono hM26) lf (by first | omega | (dsimp only; omega))) H ?_
  clear H; rintro v29 M29 L29 w hM29 ⟨rfl, h29⟩ H
  refine ⟨_, _, hM29, H, ?_⟩
  refine Ver.nextXY 5 (by kernel_rfl) rfl (by kernel_rfl) rfl ?_
  clear H; intro w H
  refine r_call cc48 (rdiff_spec (((((((hf.r.mono hM18).mono hM23).mono hle9).mono hle7).mono hle5).mono hM26).mono hM29) (k := 11) (by first | omega | (dsimp only; omega)) hf.lt (by first | omega | (dsimp only; omega))) H ?_
  clear H; rintro v31 M31 L31 w hM31 ⟨rfl, h31⟩ H
  refine ⟨_, _, hM31, H, ?_⟩
  refine Ver.nextXY 6 (by kernel_rfl) rfl (by kernel_rfl) rfl ?_
  clear H; intro w H
  refine r_call0 hdr cc15 (alike_spec (((((((((hT.mono hM13).mono hM18).mono hM23).mono hle9).mono hle7).mono hle5).mono hM26).mono hM29).mono hM31) (h29.mono hM31) h31 (k := 15) (by first | omega | (dsimp only; omega)) (diff_lt hf.p.boxed hf.lt) (by first | omega | (dsimp only; omega))) H ?_
  clear H; rintro v32 M32 L32 w hM32 ⟨rfl, rfl⟩ H
  refine ⟨_, _, hM32, H, ?_⟩
  refine Ver.read (v := .bool _) 7 rfl (by kernel_rfl) (fun M' L' w hM H => r_pickB rfl rfl rfl ⟨rfl, rfl⟩) ?_
  refine Ver.read (v := .bool _) 8 rfl (by kernel_rfl) (fun M' L' w hM H => mvB rfl ⟨rfl, rfl⟩) ?_
  refine Ver.readY (v := .agg _) 9 rfl (by kernel_rfl) rfl (fun M' L' w hM H => ldA tt24 rfl (H.ro (hM _ _ (hM32 _ _ (hM31 _ _ (hM29 _ _ (hM26 _ _ (hle5 _ _ hb7))))))) rfl (by rfl) ⟨rfl, rfl⟩) ?_
  refine Ver.readY (v := .agg _) 10 rfl (by kernel_rfl) rfl (fun M' L' w hM H => ldA tt24 rfl (H.ro (hM _ _ (hM32 _ _ (hM31 _ _ (hM29 _ _ (hM26 _ _ (hle5 _ _ (hle7 _ _ hb9)))))))) rfl (by rfl) ⟨rfl, rfl⟩) ?_
  refine Ver.readY (v := .agg _) 13 rfl (by kernel_rfl) rfl (fun M' L' w hM H => ldA tt24 rfl (H.ro (hM _ _ (hM32 _ _ (hM31 _ _ (hM29 _ _ (hM26 _ _ (hle5 _ _ hb7))))))) rfl (by rfl) ⟨rfl, rfl⟩) ?_
  refine Ver.readY (v := .agg _) 15 rfl (by kernel_rfl) rfl (fun M' L' w hM H => ldA tt24 rfl (H.ro (hM _ _ (hM32 _ _ (hM31 _ _ (hM29 _ _ (hM26 _ _ (hle5 _ _ (hle7 _ _ hb9)))))))) rfl (by rfl) ⟨rfl, rfl⟩) ?_
  refine Ver.readY (v := .agg _) 17 rfl (by kernel_rfl) rfl (fun M' L' w hM H => ldA tt24 rfl (H.ro (hM _ _ (hM32 _ _ (hM31 _ _ (hM29 _ _ (hM26 _ _ (hle5 _ _ hb7))))))) rfl (by rfl) ⟨rfl, rfl⟩) ?_
  refine Ver.readY (v := .agg _) 18 rfl (by kernel_rfl) rfl (fun M' L' w hM H => ldA tt24 rfl (H.ro (hM _ _ (hM32 _ _ (hM31 _ _ (hM29 _ _ (hM26 _ _ (hle5 _ _ (hle7 _ _ hb9)))))))) rfl (by rfl) ⟨rfl, rfl⟩) ?_
  refine Ver.nextXY 11 (by kernel_rfl) rfl (by kernel_rfl) rfl ?_
  clear H; intro w H
  refine r_call cc20 (pmul_spec (k := 2) ((((((((hg.p.mono hM23).mono hle9).mono hle7).mono hle5).mono hM26).mono hM29).mono hM31).mono hM32) (((((((hh.p.mono hle9).mono hle7).mono hle5).mono hM26).mono hM29).mono hM31).mono hM32) lg lh (by first | omega | (dsimp only; omega))) H ?_
  clear H; rintro v37 M37 L37 w hM37 ⟨rfl, h37⟩ H
  refine ⟨_, _, hM37, H, ?_⟩
  refine Ver.nextXY 12 (by kernel_rfl) rfl (by kernel_rfl) rfl ?_
  clear H; intro w H
  refine r_call cc47 (pdiff_spec (k := 6) h37 (fun a b => conv_lim (k := 2) (l := 2) lg lh a b) (by first | omega | (dsimp only; omega))) H ?_
  clear H; rintro v38 M38 L38 w hM38 ⟨rfl, h38⟩ H
  refine ⟨_, _, hM38, H, ?_⟩
  refine Ver.nextXY 14 (by kernel_rfl) rfl (by kernel_rfl) rfl ?_
  clear H; intro w H
  refine r_call cc47 (pdiff_spec (k := 2) ((((((((((hg.p.mono hM23).mono hle9).mono hle7).mono hle5).mono hM26).mono hM29).mono hM31).mono hM32).mono hM37).mono hM38) lg (by first | omega | (dsimp only; omega))) H ?_
  clear H; rintro v40 M40 L40 w hM40 ⟨rfl, h40⟩ H
  refine ⟨_, _, hM40, H, ?_⟩
  refine Ver.nextXY 16 (by kernel_rfl) rfl (by kernel_rfl) rfl ?_
  clear H; intro w H
  refine r_call cc20 (pmul_spec (k := 3) h40 ((((((((((hh.p.mono hle9).mono hle7).mono hle5).mono hM26).mono hM29).mono hM31).mono hM32).mono hM37).mono hM38).mono hM40) (diff_lim hg.p.boxed lg) (fun a b => (lh a b).mono (k' := 3) (by first | omega | (dsimp only; omega))) (by first | omega | (dsimp only; omega))) H ?_
  clear H; rintro v42 M42 L42 w hM42 ⟨rfl, h42⟩ H
  refine ⟨_, _, hM42, H, ?_⟩
  refine Ver.nextXY 19 (by kernel_rfl) rfl (by kernel_rfl) rfl ?_
  clear H; intro w H
  refine r_call cc47 (pdiff_spec (k := 2) (((((((((((hh.p.mono hle9).mono hle7).mono hle5).mono hM26).mono hM29).mono hM31).mono hM32).mono hM37).mono hM38).mono hM40).mono hM42) lh (by first | omega | (dsimp only; omega))) H ?_
  clear H; rintro v45 M45 L45 w hM45 ⟨rfl, h45⟩ H
  refine ⟨_, _, hM45, H, ?_⟩
  refine Ver.nextXY 20 (by kernel_rfl) rfl (by kernel_rfl) rfl ?_
  clear H; intro w H
  refine r_call cc20 (pmul_spec (k := 3) (((((((((((((hg.p.mono hM23).mono hle9).mono hle7).mono hle5).mono hM26).mono hM29).mono hM31).mono hM32).mono hM37).mono hM38).mono hM40).mono hM42).mono hM45) h45 (fun a b => (lg a b).mono (k' := 3) (by first | omega | (dsimp only; omega))) (diff_lim hh.p.boxed lh) (by first | omega | (dsimp only; omega))) H ?_
  clear H; rintro v46 M46 L46 w hM46 ⟨rfl, h46⟩ H
  refine ⟨_, _, hM46, H, ?_⟩
  refine Ver.nextXY 21 (by kernel_rfl) rfl (by kernel_rfl) rfl ?_
  clear H; intro w H
  refine r_call cc18 (padd_spec (k := 8) ((h42.mono hM45).mono hM46) h46 (fun a b => conv_lim (k := 3) (l := 3) (diff_lim hg.p.boxed lg) (fun a b => (lh a b).mono (k' := 3) (by first | omega | (dsimp only; omega))) a b) (fun a b => conv_lim (k := 3) (l := 3) (fun a b => (lg a b).mono (k' := 3) (by first | omega | (dsimp only; omega))) (diff_lim hh.p.boxed lh) a b) (by first | omega | (dsimp only; omega))) H ?_
  clear H; rintro v47 M47 L47 w hM47 ⟨rfl, h47⟩ H
  refine ⟨_, _, hM47, H, ?_⟩
  refine Ver.nextXY 22 (by kernel_rfl) rfl (by kernel_rfl) rfl ?_
  clear H; intro w H
  refine r_call cc24 (pequalT (((((h38.mono hM40).mono hM42).mono hM45).mono hM46).mono hM47) h47 (diff_conv hg.ex hh.ex (by decide))) H ?_
  clear H; rintro v48 M48 L48 w hM48 ⟨rfl, rfl, rfl⟩ H
  refine ⟨_, _, hM48, H, ?_⟩
  refine Ver.read (v := .bool _) 23 rfl (by kernel_rfl) (fun M' L' w hM H => r_pickB rfl rfl rfl ⟨rfl, rfl⟩) ?_
  refine Ver.read (v := .bool _) 24 rfl (by kernel_rfl) (fun M' L' w hM H => asB rfl ⟨rfl, rfl⟩) ?_
  refine Ver.finX (by kernel_rfl) ?_
  clear H; intro w H
  exact Goes.ret (ret1 (v := .bool _) rfl rfl rfl H.nil rfl)

end Go.Proofs.YtlcpdkckldlceaaGreatDoor
namespace Go.Proofs.YtlcpdkckldlceaaGreatDoor.derivative
open Go.Sx Go.ChangeShapes Go.WideShapes Go.ChangeAt Go.RowKit
set_option maxRecDepth 100000

/-- WHAT THE WALK GIVES, FOR EVERY ARGUMENT AND EVERY WORLD. -/
theorem contract (H : Type) (enc : TypeId × Value → H) (W : World) (base : Nat) (args : Array Value) (ds gs : List (DataW H)) (before : List MemPlace)
    (hval : ∀ (j : Nat) t v, Tryz.f10.params[j]? = some t → args[j]? = some v → Value.okWide Tryz.prog W .any base t v)
    (hW : DataW.Whole enc Tryz.prog Tryz.f10.params.toList Rows.polynomialDerivativeSpec.vars false W args.toList ds gs before) (hL : laidMetH Tryz.prog Rows.polynomialDerivativeRow.laid W) (hsh : W.ShapedOpen Tryz.prog) :
    Calls Tryz.prog 10 args W fun e W' => ∃ v, e = .returned v ∧ Rows.polynomialDerivativeSpec.post enc Tryz.prog Tryz.f10 false true false false W args v W' := by
  have hW' := hW
  obtain ⟨p, q, hA, hV, rfl, hfz, hnd⟩ := hW
  rw [Tryz.params10] at hA hval
  have hA : DataW.TrodAll enc Tryz.prog W 0 (fun _ => true) true [36, 36] args.toList ds p := hA
  obtain ⟨v0, vs0, d0, ds0, p0, q0, hargs, rfl, rfl, h0, r0⟩ := trodAll_cons hA
  obtain ⟨v1, vs1, d1, ds1, p1, q1, rfl, rfl, rfl, h1, r1⟩ := trodAll_cons r0
  obtain ⟨rfl, rfl, rfl⟩ := trodAll_nil r1
  obtain rfl : args = #[v0, v1] := by cases args; simp_all
  obtain ⟨t0, a0⟩ := argT_of (hval 0 36 v0 rfl rfl) h0
  obtain ⟨t1, a1⟩ := argT_of (hval 1 36 v1 rfl rfl) h1
  have hT : TabM (ofW W) := tabM_of hL
  refine (Sp0.world (derivative_law hT (maxM_of hsh) a0 a1)).mono fun e W' ⟨he, hS, hos, hout⟩ => ?_
  subst he
  exact ⟨_, rfl, post_true (L := [36, 70, 68, 45, 4, 51, 62, 3, 46, 9]) hS (by kernel_rfl) (by rw [Tryz.params10]; decide) hos hout hW' rfl (tb := 4) (by kernel_rfl) Tryz.underlying4 rfl⟩

theorem reads (os : Os) {H : Type} (enc : TypeId × Value → H) : ∃ places, DataW.whole enc Tryz.prog (startW os #[.slice none 0 0, .slice none 0 0]).memory Tryz.f10.params.toList Rows.polynomialDerivativeSpec.vars false #[Value.slice none 0 0, .slice none 0 0].toList 8 = some ([.nil, .nil], [], places) :=
  ⟨[], by kernel_rfl⟩

theorem lifted (os : Os) (started : os.Started) (H : Type) (enc : TypeId × Value → H) (F : Stop.Interp) :
    ReturnsInHanded {} Tryz.checked os 10 .any ((OpenSpec.ofChange Rows.polynomialDerivativeSpec).preRow enc Tryz.prog Tryz.f10 Rows.polynomialDerivativeRow.domain false Rows.polynomialDerivativeRow.laid) (((OpenSpec.ofChange Rows.polynomialDerivativeSpec).at F).post enc Tryz.prog Tryz.f10 false true false false) := by
  obtain ⟨places, hx⟩ := reads os enc
  refine returnsInHanded_of_row (C := Tryz.checked) (s := OpenSpec.ofChange Rows.polynomialDerivativeSpec) ownK started (by kernel_rfl) Tryz.func10
    (witness_row_at (enc := enc) (C := Tryz.checked) false (laidWorld os) #[.slice none 0 0, .slice none 0 0] rfl (by kernel_rfl) (by kernel_rfl) (by kernel_rfl)
      (OpenSpec.preRow_of_cond 8 hx (by kernel_rfl) (fun k hk => by cases hk) (by kernel_rfl) (laid_met os _))) ?_
  intro W base args ds gs before hval hW _ _ _ hL hsh _
  exact contract H enc W base args ds gs before hval hW hL hsh

theorem said : Rows.PolynomialDerivativeSaid :=
  OpenClaim.holds_of_cond 10 Tryz.f10 rfl rfl rfl rfl rfl rfl rfl ⟨rfl, rfl, rfl, rfl, rfl⟩ rfl rfl rfl rfl rfl (by kernel_rfl) Tryz.func10 (by kernel_rfl)
    (of_decide_eq_true (by kernel_rfl)) (by unfold Func.isWrapper; first | (rw [if_pos (by decide +kernel)]; kernel_rfl) | (rw [if_neg (by decide +kernel)]; exact ⟨rfl, rfl⟩))
    (fun os started H enc _ F => by rw [OpenClaim.pre_eq_preRow]; exact lifted os started H enc F)

/-- No parameter wants a stand-in; the program's own looks. -/
theorem plain (f : FuncId) (fn : Func) (hf : Tryz.pinned.checked.prog.funcNamed "palmette/palmettelaw40.PolynomialDerivative" = some f) (hfn : Tryz.pinned.checked.prog.funcs[f]? = some fn) :
    true = Tryz.pinned.checked.prog.looks [] ∧ ∀ (j : Nat) t, fn.params[j]? = some t → Tryz.pinned.checked.prog.wantsStandIn t = false := by
  obtain rfl : f = 10 := Option.some.inj ((show Tryz.prog.funcNamed "palmette/palmettelaw40.PolynomialDerivative" = some 10 by kernel_rfl).symm.trans hf) |>.symm
  obtain rfl : fn = Tryz.f10 := (Option.some.inj (Tryz.func10.symm.trans hfn)).symm
  refine ⟨by kernel_rfl, fun j t ht => ?_⟩
  have hall : (#[36, 36] : Array TypeId).all (fun t => Tryz.prog.wantsStandIn t == false) = true := by kernel_rfl
  rw [Tryz.params10] at ht
  have := Array.all_eq_true_iff_forall_mem.1 hall t (Array.mem_of_getElem? ht)
  exact (show Tryz.prog.wantsStandIn t = false by simpa using this)

/-- THE CARD. -/
theorem card : Rows.PolynomialDerivativeCardSaid :=
  Claim7.holds_tied_plain_at .later [] _ _ _ _ said (fun _ h => by cases h) (by kernel_rfl) (fun _ h => by cases h) polynomialDerivative_row_tie rfl ⟨rfl, rfl⟩ (by kernel_rfl) rfl plain (by kernel_rfl)
end Go.Proofs.YtlcpdkckldlceaaGreatDoor.derivative
