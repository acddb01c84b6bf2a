/-
  The statement PolynomialEval holds for every input, the listed library variables holding what their initialisers lay: it returns true and leaves its arguments as they were.
-/
import Derived.Test.YtlcpdkckldlceaaGreatDoorFL
import Derived.Test.YtlcpdkckldlceaaGreatDoorFM
import Derived.ChangeMaps5
import Derived.Test.YtlcpdkckldlceaaGreatDoorRows
import Derived.SevenTiedAt
import Derived.JoinedCond
namespace Go.Proofs.YtlcpdkckldlceaaGreatDoor
open Go.Sx Go.Nat32 Go.Dec Go.PolyL Go.Lib Go.Proofs
attribute [local irreducible] pt sl itc itm
set_option maxRecDepth 100000
set_option linter.unusedVariables false
set_option linter.unusedSimpArgs false
set_option maxHeartbeats 1000000

theorem conv_lt {f g : Nat → Nat → Nat} {k : Nat} (hf : ∀ a b, f a b < 10 ^ k) (hg : ∀ a b, g a b < 10 ^ k) (a b : Nat) : conv f g a b < 10 ^ (2 * k + 14) := by
  have h1 := conv_le (f := f) (g := g) (c := 10 ^ k * 10 ^ k) (fun a b d e => Nat.mul_le_mul (Nat.le_of_lt (hf a b)) (Nat.le_of_lt (hg d e))) a b
  have h2 : (10 : Nat) ^ (2 * k + 14) = 10 ^ k * 10 ^ k * 100000000000000 := by
    rw [Nat.pow_add, Nat.two_mul, Nat.pow_add]
  have h3 : 0 < 10 ^ k * 10 ^ k := Nat.mul_pos (Nat.pow_pos (by decide)) (Nat.pow_pos (by decide))
  rw [h2]
  generalize 10 ^ k * 10 ^ k = z at *
  omega
theorem conv_lim {f g : Nat → Nat → Nat} {k l : Nat} (hf : ∀ a b, lim k (f a b)) (hg : ∀ a b, lim l (g a b)) (a b : Nat) : lim (k + l + 2) (conv f g a b) := by
  have h1 := conv_le (f := f) (g := g) (c := 4294967296 ^ k * 4294967296 ^ l) (fun a b d e => Nat.mul_le_mul (Nat.le_of_lt (hf a b)) (Nat.le_of_lt (hg d e))) a b
  unfold lim
  have h2 : (4294967296 : Nat) ^ (k + l + 2) = 4294967296 ^ k * 4294967296 ^ l * 18446744073709551616 := by
    rw [Nat.pow_add, Nat.pow_add]
  have h3 : 0 < 4294967296 ^ k * 4294967296 ^ l := Nat.mul_pos (Nat.pow_pos (by decide)) (Nat.pow_pos (by decide))
  rw [h2]
  generalize 4294967296 ^ k * 4294967296 ^ l = z at *
  omega

theorem Made.shapes {M : RO} {v u : Value} {f : Nat → Nat → Nat} {most m : Nat} (h : Made M v u f most m) : ∃ q a n c, v = .agg #[.map q] ∧ u = .slice a n c := by
  obtain ⟨q, hq⟩ := h.p.shape
  obtain ⟨a, n, c, hu⟩ := h.r.shape
  exact ⟨q, a, n, c, hq, hu⟩

theorem sumProduct_law {M : RO} (hT : TabM M) (hm : MaxM M) {va vb : Value} {ta tb : List (Nat × Nat × Nat)} {small : Bool} (ha : ArgT M va ta) (hb : ArgT M vb tb) :
    Sp0 Tryz.prog 4 [va, vb, .bool small] M [] fun r _ _ => r = .bool true := by
  have ha' := ha
  have hb' := hb
  obtain ⟨aa, ac, rfl, _⟩ := ha.shape
  obtain ⟨ba, bc, rfl, _⟩ := hb.shape
  refine Sp0.enter (n := 54) Tryz.func4 rfl Tryz.ntmps4 rfl ?_
  intro E hdr hE H
  subst hE
  refine Goes.seq (Goes.region ?_)
  refine GoL.stepS rfl rfl (asB rfl ?_)
  refine GoL.nil ?_
  refine Goes.seq (Goes.region ?_)
  refine GoL.stepS rfl rfl (asI rfl ?_)
  refine GoL.nil ?_
  refine Goes.seq (Goes.seq (Goes.region ?_))
  refine GoL.stepS rfl rfl (mvB rfl ?_)
  refine GoL.nil ?_
  refine Goes.cutT [7] [(7, .int .i64 2048)] (fun (most : Nat) => [(7, .int .i64 (most : Int))]) (fun most w => most ≤ 2048 ∧ Hp E E.M [] w) ⟨rfl, trivial⟩ ?aft ?cut
  case cut =>
    intro f0 meet
    refine Goes.cond rfl (fun hs => ?_) (fun hs => ?_)
    · refine Goes.region ?_
      refine GoL.stepS rfl rfl (asI rfl ?_)
      refine GoL.nil ?_
      exact meet 3 _ _ ⟨rfl, trivial⟩ (.of_strip (by kernel_rfl)) ⟨by decide, H⟩
    · refine Goes.skip ?_
      exact meet 2048 _ _ ⟨rfl, trivial⟩ (.of_strip (by kernel_rfl)) ⟨Nat.le_refl _, H⟩
  case aft =>
    clear H
    rintro most f1 w ⟨hmost, H⟩
    refine Goes.seq (Goes.region ?_)
    refine GoL.stepS rfl rfl (mvL rfl ?_)
    refine GoL.stepS rfl rfl (mvI rfl ?_)
    refine GoL.stepS rfl rfl (r_call cc17 (made40_spec ha' hmost) H ?_); clear H; rintro v16 M16 L16 w hM16 ⟨rfl, p16, u16, f, rfl, hf⟩ H
    obtain ⟨q16, a16, n16, c16, rfl, rfl⟩ := hf.shapes
    refine GoL.stepS rfl rfl (mvT rfl ?_)
    refine GoL.stepS rfl rfl (r_extract rfl rfl ?_)
    refine GoL.stepS rfl rfl (r_extract rfl rfl ?_)
    refine GoL.stepS rfl rfl (r_alloc tt24 H ?_); clear H; intro b8 w hb8 H
    refine GoL.step0 rfl (stA tt24 rfl rfl H (by repeat constructor) rfl rfl (by rfl) ?_); clear H; intro w H
    refine GoL.stepS rfl rfl (asL rfl ?_)
    refine GoL.nil ?_
    refine Goes.seq (Goes.region ?_)
    refine GoL.stepS rfl rfl (mvL rfl ?_)
    refine GoL.stepS rfl rfl (mvI rfl ?_)
    refine GoL.stepS rfl rfl (r_call cc17 (made40_spec (hb'.mono hM16) hmost) H ?_); clear H; rintro v22 M22 L22 w hM22 ⟨rfl, p22, u22, g, rfl, hg⟩ H
    obtain ⟨q22, a22, n22, c22, rfl, rfl⟩ := hg.shapes
    have hf := hf.mono hM22
    have hfg : ∀ a b, f a b + g a b < 10 ^ 12 := fun a b => by
      have h1 := hf.lt a b
      have h2 := hg.lt a b
      have h3 : (10 : Nat) ^ 11 = 100000000000 := rfl
      have h4 : (10 : Nat) ^ 12 = 1000000000000 := rfl
      rw [h3] at h1 h2; rw [h4]; omega
    have gT : TabM M22 := (hT.mono hM16).mono hM22
    have gle : ∀ {A B C D F G J : RO}, A.le B → B.le C → C.le D → D.le F → F.le G → G.le J → A.le J := fun h1 h2 h3 h4 h5 h6 b o h => h6 _ _ (h5 _ _ (h4 _ _ (h3 _ _ (h2 _ _ (h1 _ _ h)))))
    refine GoL.stepS rfl rfl (mvT rfl ?_)
    refine GoL.stepS rfl rfl (r_extract rfl rfl ?_)
    refine GoL.stepS rfl rfl (r_extract rfl rfl ?_)
    refine GoL.stepS rfl rfl (r_alloc tt24 H ?_); clear H; intro b10 w hb10 H
    refine GoL.step0 rfl (stA tt24 rfl rfl H (by repeat constructor) rfl rfl (by rfl) ?_); clear H; intro w H
    refine GoL.stepS rfl rfl (asL rfl ?_)
    refine GoL.nil ?_
    refine Goes.seq (Goes.region ?_)
    refine GoL.stepS rfl rfl (r_call0 hdr cc14 (known_spec ((hT.mono hM16).mono hM22) ((hm.mono hM16).mono hM22)) H ?_); clear H; rintro v25 M25 L25 w hM25 ⟨rfl, rfl⟩ H
    refine GoL.stepS rfl rfl (mvB rfl ?_)
    refine GoL.stepYS rfl rfl rfl (ldA tt24 rfl (H.own (by repeat constructor)) rfl (by rfl) ?_)
    refine GoL.stepYS rfl rfl rfl (ldA tt24 rfl (H.own (by repeat constructor)) rfl (by rfl) ?_)
    refine GoL.stepYS rfl rfl rfl (r_call cc18 (padd_spec (hf.p.mono hM25) (hg.p.mono hM25) hf.lim hg.lim (by first | omega | (dsimp only; omega))) H ?_); clear H; rintro v29 M29 L29 w hM29 ⟨rfl, h29⟩ H
    refine GoL.stepYS rfl rfl rfl (mvL rfl ?_)
    refine GoL.stepYS rfl rfl rfl (mvL rfl ?_)
    refine GoL.stepYS rfl rfl rfl (r_call cc19 (radd40_spec (((hf.r.mono hM25)).mono hM29) ((hg.r.mono hM25).mono hM29) (k := 12) (by first | omega | (dsimp only; omega)) hfg (by first | omega | (dsimp only; omega))) H ?_); clear H; rintro v32 M32 L32 w hM32 ⟨rfl, h32⟩ H
    refine GoL.stepYS rfl rfl rfl (r_call0 hdr cc15 (alike_spec (((gT.mono hM25).mono hM29).mono hM32) (h29.mono hM32) h32 (k := 12) (by first | omega | (dsimp only; omega)) hfg (by first | omega | (dsimp only; omega))) H ?_); clear H; rintro v33 M33 L33 w hM33 ⟨rfl, rfl⟩ H
    refine GoL.stepS rfl rfl (r_pickB rfl rfl rfl ?_)
    refine GoL.stepS rfl rfl (mvB rfl ?_)
    refine GoL.stepYS rfl rfl rfl (ldA tt24 rfl (H.own (by repeat constructor)) rfl (by rfl) ?_)
    refine GoL.stepYS rfl rfl rfl (ldA tt24 rfl (H.own (by repeat constructor)) rfl (by rfl) ?_)
    refine GoL.stepYS rfl rfl rfl (r_call cc20 (pmul_spec (((((hf.p.mono hM25).mono hM29).mono hM32)).mono hM33) ((((hg.p.mono hM25).mono hM29).mono hM32).mono hM33) hf.lim hg.lim (by first | omega | (dsimp only; omega))) H ?_); clear H; rintro v38 M38 L38 w hM38 ⟨rfl, h38⟩ H
    refine GoL.stepYS rfl rfl rfl (mvL rfl ?_)
    refine GoL.stepYS rfl rfl rfl (mvL rfl ?_)
    refine GoL.stepYS rfl rfl rfl (r_call cc21 (rmul40_spec (((((hf.r.mono hM25).mono hM29).mono hM32).mono hM33).mono hM38) (((((hg.r.mono hM25).mono hM29).mono hM32).mono hM33).mono hM38) (k := 11) (by first | omega | (dsimp only; omega)) hf.lt hg.lt (by first | omega | (dsimp only; omega)) (by first | omega | (dsimp only; omega))) H ?_); clear H; rintro v41 M41 L41 w hM41 ⟨rfl, h41⟩ H
    refine GoL.stepYS rfl rfl rfl (r_call0 hdr cc15 (alike_spec ((((((gT.mono hM25).mono hM29).mono hM32).mono hM33).mono hM38).mono hM41) (h38.mono hM41) h41 (k := 36) (by first | omega | (dsimp only; omega)) (conv_lt (k := 11) hf.lt hg.lt) (by first | omega | (dsimp only; omega))) H ?_); clear H; rintro v42 M42 L42 w hM42 ⟨rfl, rfl⟩ H
    refine GoL.stepS rfl rfl (r_pickB rfl rfl rfl ?_)
    refine GoL.stepS rfl rfl (mvB rfl ?_)
    refine GoL.stepYS rfl rfl rfl (ldA tt24 rfl (H.own (by repeat constructor)) rfl (by rfl) ?_)
    refine GoL.stepYS rfl rfl rfl (mvL rfl ?_)
    refine GoL.stepYS rfl rfl rfl (r_call0 hdr cc15 (alike_spec ((gT.mono (gle hM25 hM29 hM32 hM33 hM38 hM41)).mono hM42) ((hf.p.mono (gle hM25 hM29 hM32 hM33 hM38 hM41)).mono hM42) ((hf.r.mono (gle hM25 hM29 hM32 hM33 hM38 hM41)).mono hM42) (k := 11) (by first | omega | (dsimp only; omega)) hf.lt (by first | omega | (dsimp only; omega))) H ?_); clear H; rintro v47 M47 L47 w hM47 ⟨rfl, rfl⟩ H
    refine GoL.stepS rfl rfl (r_pickB rfl rfl rfl ?_)
    refine GoL.stepS rfl rfl (mvB rfl ?_)
    refine GoL.stepYS rfl rfl rfl (ldA tt24 rfl (H.own (by repeat constructor)) rfl (by rfl) ?_)
    refine GoL.stepYS rfl rfl rfl (mvL rfl ?_)
    refine GoL.stepYS rfl rfl rfl (r_call0 hdr cc15 (alike_spec (((gT.mono (gle hM25 hM29 hM32 hM33 hM38 hM41)).mono hM42).mono hM47) (((hg.p.mono (gle hM25 hM29 hM32 hM33 hM38 hM41)).mono hM42).mono hM47) (((hg.r.mono (gle hM25 hM29 hM32 hM33 hM38 hM41)).mono hM42).mono hM47) (k := 11) (by first | omega | (dsimp only; omega)) hg.lt (by first | omega | (dsimp only; omega))) H ?_); clear H; rintro v52 M52 L52 w hM52 ⟨rfl, rfl⟩ H
    refine GoL.stepS rfl rfl (r_pickB rfl rfl rfl ?_)
    refine GoL.stepS rfl rfl (asB rfl ?_)
    refine GoL.nil ?_
    exact Goes.ret (ret1 (v := .bool _) rfl rfl rfl H.nil rfl)

end Go.Proofs.YtlcpdkckldlceaaGreatDoor
namespace Go.Proofs.YtlcpdkckldlceaaGreatDoor
open Go.Sx Go.Nat32 Go.Dec Go.PolyL Go.Lib Go.Proofs
set_option maxRecDepth 100000
set_option linter.unusedVariables false
set_option linter.unusedSimpArgs false

theorem evalF_conv {f g : Nat → Nat → Nat} {d : Nat} (hf : ExpLe f d) (hg : ExpLe g d) (hd : 2 * d ≤ 2048) (x y : Nat) : evalF (conv f g) x y = evalF f x y * evalF g x y := by
  unfold evalF
  have h1 : ∀ k ∈ box, conv f g k.1 k.2 * x ^ k.1 * y ^ k.2 = sumL box fun s => sumL box fun t => if k = (s.1 + t.1, s.2 + t.2) then f s.1 s.2 * x ^ s.1 * y ^ s.2 * (g t.1 t.2 * x ^ t.1 * y ^ t.2) else 0 := by
    intro k hk
    rw [conv, if_pos (mem_box.1 hk), Nat.mul_assoc, ← sumL_mulr]
    refine sumL_congr fun s _ => ?_
    rw [← sumL_mulr]
    refine sumL_congr fun t _ => ?_
    by_cases h : s.1 + t.1 = k.1 ∧ s.2 + t.2 = k.2
    · rw [if_pos h, if_pos (Prod.ext h.1.symm h.2.symm), ← h.1, ← h.2, Nat.pow_add, Nat.pow_add]
      simp only [Nat.mul_assoc, Nat.mul_comm, Nat.mul_left_comm]
    · rw [if_neg h, if_neg (fun e => h (by rw [e]; exact ⟨rfl, rfl⟩)), Nat.zero_mul]
  rw [sumL_congr h1, sumL_comm, ← sumL_mulr]
  refine sumL_congr fun s _ => ?_
  rw [sumL_comm, ← sumL_mul]
  refine sumL_congr fun t _ => ?_
  rw [sumL_ite nodup_box]
  by_cases h : (s.1 + t.1, s.2 + t.2) ∈ box
  · rw [if_pos h]
  · rw [if_neg h]
    by_cases h2 : f s.1 s.2 = 0
    · rw [h2]; simp
    · by_cases h3 : g t.1 t.2 = 0
      · rw [h3]; simp
      · have e1 := hf _ _ h2
        have e2 := hg _ _ h3
        exact absurd (mem_box.2 ⟨by show s.1 + t.1 ≤ 2048; omega, by show s.2 + t.2 ≤ 2048; omega⟩) h

/-- The product, nothing left out. -/
def full (f g : Nat → Nat → Nat) (a b : Nat) : Nat := sumL box fun s => sumL box fun t => if s.1 + t.1 = a ∧ s.2 + t.2 = b then f s.1 s.2 * g t.1 t.2 else 0
theorem conv_full {f g : Nat → Nat → Nat} {d : Nat} (hf : ExpLe f d) (hg : ExpLe g d) (hd : 2 * d ≤ 2048) (a b : Nat) : conv f g a b = full f g a b := by
  unfold conv full
  split
  · rfl
  · rename_i hab
    symm
    refine sumL_zero fun s _ => sumL_zero fun t _ => ?_
    split
    · rename_i h
      by_cases h2 : f s.1 s.2 = 0
      · rw [h2, Nat.zero_mul]
      · by_cases h3 : g t.1 t.2 = 0
        · rw [h3, Nat.mul_zero]
        · have e1 := hf _ _ h2
          have e2 := hg _ _ h3
          omega
    · rfl
theorem sum_box (F : Nat → Nat → Nat) : (sumL box fun k => F k.1 k.2) = sumL (List.range 2049) fun a => sumL (List.range 2049) fun b => F a b := by
  have : ∀ l : List Nat, (sumL (l.flatMap fun a => (List.range 2049).map fun b => (a, b)) fun k => F k.1 k.2) = sumL l fun a => sumL (List.range 2049) fun b => F a b := by
    intro l
    induction l with
    | nil => rfl
    | cons x l ih => rw [List.flatMap_cons, sumL_append, ih, sumL_cons, sumL_map]
  exact this _
theorem sum_shift (G : Nat → Nat) : ∀ n, sumL (List.range n) (fun a => G (a + 1)) + G 0 = sumL (List.range n) G + G n
  | 0 => by simp [sumL]
  | n + 1 => by
    have := sum_shift G n
    rw [List.range_succ, sumL_snoc, sumL_snoc]
    omega
theorem range_shift {G : Nat → Nat → Nat} {n m : Nat} (h0 : ∀ b, G 0 b = 0) (h1 : ∀ b, G n b = 0) : (sumL (List.range n) fun a => sumL (List.range m) fun b => G (a + 1) b) = sumL (List.range n) fun a => sumL (List.range m) fun b => G a b := by
  have h := sum_shift (fun a => sumL (List.range m) fun b => G a b) n
  have e0 : (sumL (List.range m) fun b => G 0 b) = 0 := sumL_zero fun b _ => h0 b
  have e1 : (sumL (List.range m) fun b => G n b) = 0 := sumL_zero fun b _ => h1 b
  rw [e0, e1] at h
  omega
theorem box_shift {G : Nat → Nat → Nat} (h0 : ∀ b, G 0 b = 0) (h1 : ∀ b, G 2049 b = 0) : (sumL box fun k => G (k.1 + 1) k.2) = sumL box fun k => G k.1 k.2 := by
  rw [sum_box fun a b => G (a + 1) b, sum_box G]
  exact range_shift h0 h1
theorem diff_exp {f : Nat → Nat → Nat} {d : Nat} (hf : ExpLe f d) : ExpLe (diffF f) d := by
  intro a b h
  have : f (a + 1) b ≠ 0 := fun e => h (by unfold diffF; rw [e, Nat.zero_mul])
  have := hf _ _ this
  omega
theorem full_diff {f g : Nat → Nat → Nat} {d : Nat} (hf : ExpLe f d) (hd : d ≤ 2048) (a b : Nat) : full (diffF f) g a b = sumL box fun s => sumL box fun t => if s.1 + t.1 = a + 1 ∧ s.2 + t.2 = b then f s.1 s.2 * s.1 * g t.1 t.2 else 0 := by
  unfold full
  rw [← box_shift (G := fun u v => sumL box fun t => if u + t.1 = a + 1 ∧ v + t.2 = b then f u v * u * g t.1 t.2 else 0)]
  · refine sumL_congr fun s _ => sumL_congr fun t _ => ?_
    by_cases h : s.1 + t.1 = a ∧ s.2 + t.2 = b
    · rw [if_pos h, if_pos (by omega)]; rfl
    · rw [if_neg h, if_neg (by omega)]
  · intro v
    exact sumL_zero fun t _ => by split <;> simp
  · intro v
    refine sumL_zero fun t _ => ?_
    have : f 2049 v = 0 := by
      by_cases h : f 2049 v = 0
      · exact h
      · have := hf _ _ h; omega
    rw [this]; split <;> simp
theorem diff_conv {f g : Nat → Nat → Nat} {d : Nat} (hf : ExpLe f d) (hg : ExpLe g d) (hd : 2 * d ≤ 2048) : diffF (conv f g) = fun a b => conv (diffF f) g a b + conv f (diffF g) a b := by
  funext a b
  rw [conv_comm f (diffF g), conv_full (diff_exp hf) hg hd, conv_full (diff_exp hg) hf hd, full_diff hf (by omega), full_diff hg (by omega)]
  show conv f g (a + 1) b * (a + 1) = _
  rw [conv_full hf hg hd, sumL_comm box box (fun s t => if s.1 + t.1 = a + 1 ∧ s.2 + t.2 = b then g s.1 s.2 * s.1 * f t.1 t.2 else 0), ← sumL_add]
  unfold full
  rw [← sumL_mulr]
  refine sumL_congr fun s _ => ?_
  rw [← sumL_mulr, ← sumL_add]
  refine sumL_congr fun t _ => ?_
  by_cases h : s.1 + t.1 = a + 1 ∧ s.2 + t.2 = b
  · rw [if_pos h, if_pos h, if_pos (by omega), ← h.1, Nat.mul_add]
    simp only [Nat.mul_assoc, Nat.mul_comm, Nat.mul_left_comm]
  · rw [if_neg h, if_neg h, if_neg (by omega), Nat.zero_mul]
end Go.Proofs.YtlcpdkckldlceaaGreatDoor
namespace Go.Proofs.YtlcpdkckldlceaaGreatDoor
open Go.Sx Go.Nat32 Go.Dec Go.PolyL Go.Lib Go.Proofs
attribute [local irreducible] pt sl itc itm
set_option maxRecDepth 100000
set_option linter.unusedVariables false
set_option linter.unusedSimpArgs false
set_option maxHeartbeats 1000000

theorem r_neqSF {P : Program} {ρ : Env} {w : World} {K : Value → World → Prop} {dst : Option Tmp} {ty : TypeId} {pos : String} {aft : Array Edge} {g : Option (Nat × Bool)} {t yt : TypeId} {x y : Operand} {a b : List UInt8} (hx : ρ.ev x = .string ⟨a.toArray⟩) (hy : ρ.ev y = .string ⟨b.toArray⟩) (hc : a = b) (h : K (.bool false) w) : OpRuns P ρ ⟨dst, .binOp .neq t x y yt, ty, pos, aft, g⟩ w K := by
  refine r_neqS hx hy ?_
  subst hc
  have : (!(a == a)) = false := by simp
  rw [this]; exact h
theorem rowF_lim {f : Nat → Nat → Nat} {k : Nat} (lf : ∀ a b, lim k (f a b)) (b : Int) (j : Nat) : lim k (rowF f b j) := by
  unfold rowF
  split
  · exact lf _ _
  · unfold Go.Nat32.lim; exact Nat.pow_pos (by decide)
theorem rowF_lt {f : Nat → Nat → Nat} {k : Nat} (lf : ∀ a b, f a b < 10 ^ k) (b : Int) (j : Nat) : rowF f b j < 10 ^ k := by
  unfold rowF
  split
  · exact lf _ _
  · exact Nat.pow_pos (by decide)

theorem coefficients_law {M : RO} (hT : TabM M) (hm : MaxM M) {va : Value} {ta : List (Nat × Nat × Nat)} {b : Int} (ha : ArgT M va ta) (hb : -9223372036854775808 ≤ b ∧ b ≤ 9223372036854775807) :
    Sp0 Tryz.prog 11 [va, .int .i64 b] M [] fun r _ _ => r = .bool true := by
  have ha' := ha
  obtain ⟨aa, ac, rfl, _⟩ := ha.shape
  refine Sp0.enter (n := 60) Tryz.func11 rfl Tryz.ntmps11 rfl ?_
  intro E hdr hE H
  subst hE
  refine Goes.seq (Goes.region ?_)
  refine GoL.stepS rfl rfl (asB rfl ?_)
  refine GoL.nil ?_
  refine Goes.seq (Goes.region ?_)
  refine GoL.stepS rfl rfl (mvL rfl ?_)
  refine GoL.stepS rfl rfl (r_call cc17 (made40_spec (most := 12) ha' (by decide)) H ?_); clear H; rintro v13 M13 L13 w hM13 ⟨rfl, p13, u13, f, rfl, hf⟩ H
  refine GoL.stepS rfl rfl (mvT rfl ?_)
  obtain ⟨q13, a13, n13, c13, rfl, rfl⟩ := hf.shapes
  refine GoL.stepS rfl rfl (r_extract rfl rfl ?_)
  refine GoL.stepS rfl rfl (r_extract rfl rfl ?_)
  refine GoL.stepS rfl rfl (r_alloc tt24 H ?_); clear H; intro b5 w hb5 H
  refine GoL.step0 rfl (stA tt24 rfl rfl H (by repeat constructor) rfl rfl (by rfl) ?_); clear H; intro w H
  refine GoL.stepS rfl rfl (asL rfl ?_)
  refine GoL.nil ?_
  refine Goes.seq (Goes.seq ?_)
  obtain ⟨K5, hb5, hle5, H⟩ := H.freezeX (i := 0) .head
  have lf := hf.lim
  have hfK := hf.mono hle5
  have hTK : TabM K5 := (hT.mono hM13).mono hle5
  have hmK : MaxM K5 := (hm.mono hM13).mono hle5
  refine Goes.region ?_
  refine GoL.stepS rfl rfl (asI rfl ?_)
  refine GoL.nil ?_
  refine Goes.block ?_
  refine Goes.loopS (4 :: 7 :: 8 :: 9 :: 10 :: 16 :: 17 :: 18 :: 19 :: 20 :: 21 :: 22 :: 23 :: 24 :: 25 :: 26 :: 27 :: 28 :: 29 :: 30 :: 31 :: 32 :: 33 :: 34 :: 35 :: 36 :: 37 :: 38 :: 39 :: 40 :: 41 :: 42 :: 43 :: 44 :: 45 :: 46 :: 47 :: []) (fun (q : Nat × RO) => [(7, .int .i64 ((q.1 : Int) - 1))]) (fun q w => q.1 ≤ 15 ∧ K5.le q.2 ∧ Hp E q.2 [] w) (fun q => 15 - q.1) (0, K5) ⟨rfl, trivial⟩ ⟨Nat.zero_le _, RO.le.refl _, H⟩ ?_
  clear H
  rintro ⟨i, M1⟩ f1 w ⟨hi, hM1, H⟩ again
  dsimp only at hi hM1 H
  refine Goes.seq (Goes.seq (Goes.region ?_))
  refine GoL.stepS rfl rfl (mvI rfl ?_)
  refine GoL.stepS rfl rfl (r_leq rfl rfl ?_)
  refine GoL.nil ?_
  refine Goes.cond rfl (fun hd => ?_) (fun hd => ?_)
  · have hi14 : i ≤ 14 := by have : (i : Int) - 1 ≤ 13 := by simpa using hd
                             omega
    refine Goes.skip (Goes.seq (Goes.block (Goes.seq (Goes.region ?_))))
    refine GoL.stepS rfl rfl (ldA tt24 rfl (H.ro (hM1 _ _ hb5)) rfl (by rfl) ?_)
    refine GoL.stepS rfl rfl (mvI rfl ?_)
    refine GoL.stepS rfl rfl (r_call cc49 (prow_spec (b := (i : Int) - 1) (hfK.p.mono hM1) (by first | omega | (dsimp only; omega)) (by first | omega | (dsimp only; omega))) H ?_); clear H; rintro v22 M22 L22 w hM22 ⟨rfl, a22, c22, vs22, rfl, hc22, hr22, hv22, hw22⟩ H
    refine GoL.stepS rfl rfl (mvL rfl ?_)
    refine GoL.stepS rfl rfl (mvI rfl ?_)
    refine GoL.stepS rfl rfl (r_call cc50 (rrow_spec (b := (i : Int) - 1) ((hfK.r.mono hM1).mono hM22) (by first | omega | (dsimp only; omega))) H ?_); clear H; rintro v25 M25 L25 w hM25 ⟨rfl, a25, c25, vs25, rfl, hc25, hr25, hv25, hw25⟩ H
    refine GoL.stepS rfl rfl (asL rfl ?_)
    refine GoL.stepS rfl rfl (asL rfl ?_)
    refine GoL.nil ?_
    refine Goes.seq (Goes.seq ?_)
    have hlen : (vs22.length : Int) = (vs25.length : Int) := by have := hw22.uniq hw25; omega
    refine Goes.region ?_
    refine GoL.stepS rfl rfl (mvL rfl ?_)
    refine GoL.stepS rfl rfl (r_lenSlice tt81 rfl ?_)
    refine GoL.stepS rfl rfl (mvL rfl ?_)
    refine GoL.stepS rfl rfl (r_lenSlice tt83 rfl ?_)
    refine GoL.stepS rfl rfl (r_neqF rfl rfl (by first | omega | (dsimp only; omega)) ?_)
    refine GoL.nil ?_
    refine Goes.condF rfl (rfl) ?_
    refine Goes.skip (Goes.seq (Goes.region ?_))
    refine GoL.stepS rfl rfl (asI rfl ?_)
    refine GoL.nil ?_
    refine Goes.block ?_
    refine Goes.loopS (4 :: 10 :: 31 :: 32 :: 33 :: 34 :: 35 :: 36 :: 37 :: 38 :: 39 :: 40 :: 41 :: 42 :: 43 :: 44 :: 45 :: 46 :: 47 :: []) (fun (q : Nat × RO) => [(10, .int .i64 (q.1 : Int))]) (fun q w => q.1 ≤ vs22.length ∧ M25.le q.2 ∧ Hp E q.2 [] w) (fun q => vs22.length - q.1) (0, M25) ⟨rfl, trivial⟩ ⟨Nat.zero_le _, RO.le.refl _, H⟩ ?_
    clear H
    rintro ⟨j, M2⟩ f2 w ⟨hj, hM2, H⟩ again2
    dsimp only at hj hM2 H
    refine Goes.seq (Goes.seq (Goes.region ?_))
    refine GoL.stepS rfl rfl (mvI rfl ?_)
    refine GoL.stepS rfl rfl (mvL rfl ?_)
    refine GoL.stepS rfl rfl (r_lenSlice tt81 rfl ?_)
    refine GoL.stepS rfl rfl (r_lss rfl rfl ?_)
    refine GoL.nil ?_
    refine Goes.cond rfl (fun hd2 => ?_) (fun hd2 => ?_)
    · have hjn : j < vs22.length := by have : (j : Int) < (vs22.length : Int) := by simpa using hd2
                                       omega
      have hjn2 : j < vs25.length := by omega
      obtain ⟨y, hy⟩ : ∃ y, vs22[j]? = some y := ⟨_, List.getElem?_eq_getElem hjn⟩
      obtain ⟨z, hz⟩ : ∃ z, vs25[j]? = some z := ⟨_, List.getElem?_eq_getElem hjn2⟩
      obtain ⟨rb, ro, rcs, re, rz, rfl, hMq, hcj⟩ := hr22.at hy
      obtain ⟨sb, so, scs, se, sz, rfl, hMr, hdj⟩ := hr25.at hz
      have hy' := hv22 j y hy
      have hz' := hv25 j z hz
      obtain ⟨ya, yn, yc, ey⟩ := hy'.shape
      obtain rfl : y = .slice ya yn yc := by simpa using ey
      obtain ⟨za, zn, zc, rfl⟩ := hz'.shape
      have hlb := hw22.high
      refine Goes.skip (Goes.seq (Goes.block (Goes.seq ?_)))
      refine Goes.regionDX mixed (by kernel_rfl) 12 H ?_
      refine Ver.read (v := .slice _ _ _) 0 rfl (by kernel_rfl) (fun M' L' w hM H => mvL rfl ⟨rfl, rfl⟩) ?_
      refine Ver.read (v := .int _ _) 1 rfl (by kernel_rfl) (fun M' L' w hM H => mvI rfl ⟨rfl, rfl⟩) ?_
      refine Ver.read (v := .pointer _) 2 rfl (by kernel_rfl) (fun M' L' w hM H => r_indexAddrN tt81 tt49 rfl rfl hjn ⟨rfl, rfl⟩) ?_
      refine Ver.read (v := (.agg #[.slice ya yn yc])) 3 rfl (by kernel_rfl) (fun M' L' w hM H => r_load tt49 rfl (H.ro (hM _ _ (hM2 _ _ (hM25 _ _ hMq)))) (rd_agg1 rfl (by rw [Nat.mul_one]; exact hcj)) ⟨rfl, rfl⟩) ?_
      refine Ver.read (v := .slice _ _ _) 5 rfl (by kernel_rfl) (fun M' L' w hM H => mvL rfl ⟨rfl, rfl⟩) ?_
      refine Ver.read (v := .int _ _) 6 rfl (by kernel_rfl) (fun M' L' w hM H => mvI rfl ⟨rfl, rfl⟩) ?_
      refine Ver.read (v := .pointer _) 7 rfl (by kernel_rfl) (fun M' L' w hM H => r_indexAddrN tt83 tt55 rfl rfl hjn2 ⟨rfl, rfl⟩) ?_
      refine Ver.read (v := .slice _ _ _) 8 rfl (by kernel_rfl) (fun M' L' w hM H => ldL tt55 rfl (H.ro (hM _ _ (hM2 _ _ hMr))) (by rw [Nat.mul_one]; exact hdj) ⟨rfl, rfl⟩) ?_
      refine Ver.nextX 4 (by kernel_rfl) rfl (by kernel_rfl) ?_
      clear H; intro w H
      refine r_call0 hdr cc27 (natString_spec (k := 2) ((((hTK.mono hM1).mono hM22).mono hM25).mono hM2) ((hy'.mono hM25).mono hM2) (rowF_lim lf _ _) (by first | omega | (dsimp only; omega))) H ?_
      clear H; rintro v41 M41 L41 w hM41 ⟨rfl, rfl⟩ H
      refine ⟨_, _, hM41, H, ?_⟩
      refine Ver.nextX 9 (by kernel_rfl) rfl (by kernel_rfl) ?_
      clear H; intro w H
      refine r_call cc28 (rtext_spec (k := 11) ((hz'.mono hM2).mono hM41) (rowF_lt hf.lt _ _) (by first | omega | (dsimp only; omega))) H ?_
      clear H; rintro v46 M46 L46 w hM46 ⟨rfl, rfl⟩ H
      refine ⟨_, _, hM46, H, ?_⟩
      refine Ver.read (v := .bool _) 10 rfl (by kernel_rfl) (fun M' L' w hM H => r_neqSF rfl rfl rfl ⟨rfl, rfl⟩) ?_
      refine Ver.finX (by kernel_rfl) ?_
      clear H; intro w H
      refine Goes.condF rfl (rfl) ?_
      refine Goes.skip (Goes.inBlock (Goes.region ?_))
      refine GoL.stepS rfl rfl (mvI rfl ?_)
      refine GoL.stepS rfl rfl (r_addR ((j + 1 : Nat) : Int) rfl rfl (by first | omega | (dsimp only; omega)) (by first | omega | (dsimp only; omega)) (by first | omega | (dsimp only; omega)) ?_)
      refine GoL.stepS rfl rfl (asI rfl ?_)
      refine GoL.nil ?_
      exact again2 (j + 1, M46) _ _ ⟨rfl, trivial⟩ (.of_strip (by kernel_rfl)) ⟨by first | omega | (dsimp only; omega), hM2.trans (hM41.trans hM46), H⟩ (by first | omega | (dsimp only; omega))
    · refine Goes.exit rfl (Goes.inBlock (Goes.region ?_))
      refine GoL.stepS rfl rfl (mvI rfl ?_)
      refine GoL.stepS rfl rfl (r_addR (((i + 1 : Nat) : Int) - 1) rfl rfl (by first | omega | (dsimp only; omega)) (by first | omega | (dsimp only; omega)) (by first | omega | (dsimp only; omega)) ?_)
      refine GoL.stepS rfl rfl (asI rfl ?_)
      refine GoL.nil ?_
      exact again (i + 1, M2) _ _ ⟨rfl, trivial⟩ (.of_strip (by kernel_rfl)) ⟨by first | omega | (dsimp only; omega), hM1.trans (hM22.trans (hM25.trans hM2)), H⟩ (by first | omega | (dsimp only; omega))
  · refine Goes.exit rfl (Goes.seq (Goes.region ?_))
    refine GoL.stepS rfl rfl (r_call0 hdr cc14 (known_spec (hTK.mono hM1) (hmK.mono hM1)) H ?_); clear H; rintro v48 M48 L48 w hM48 ⟨rfl, rfl⟩ H
    refine GoL.stepS rfl rfl (mvB rfl ?_)
    refine GoL.stepYS rfl rfl rfl (ldA tt24 rfl (H.ro (hM48 _ _ (hM1 _ _ hb5))) rfl (by rfl) ?_)
    refine GoL.stepYS rfl rfl rfl (mvI rfl ?_)
    refine GoL.stepYS rfl rfl rfl (r_call cc49 (prow_spec ((hfK.p.mono hM1).mono hM48) hb.1 hb.2) H ?_); clear H; rintro v52 M52 L52 w hM52 ⟨rfl, a52, c52, vs52, rfl, hc52, hr52, hv52, hw52⟩ H
    refine GoL.stepYS rfl rfl rfl (r_lenSlice tt81 rfl ?_)
    refine GoL.stepYS rfl rfl rfl (mvL rfl ?_)
    refine GoL.stepYS rfl rfl rfl (mvI rfl ?_)
    refine GoL.stepYS rfl rfl rfl (r_call cc50 (rrow_spec (((hfK.r.mono hM1).mono hM48).mono hM52) (by first | omega | (dsimp only; omega))) H ?_); clear H; rintro v56 M56 L56 w hM56 ⟨rfl, a56, c56, vs56, rfl, hc56, hr56, hv56, hw56⟩ H
    refine GoL.stepYS rfl rfl rfl (r_lenSlice tt83 rfl ?_)
    refine GoL.stepYS rfl rfl rfl (r_eqlT rfl rfl (by have := hw52.uniq hw56; omega) ?_)
    refine GoL.stepS rfl rfl (r_pickB rfl rfl rfl ?_)
    refine GoL.stepS rfl rfl (asB rfl ?_)
    refine GoL.nil ?_
    exact Goes.ret (ret1 (v := .bool _) rfl rfl rfl H.nil rfl)

end Go.Proofs.YtlcpdkckldlceaaGreatDoor
namespace Go.Proofs.YtlcpdkckldlceaaGreatDoor
open Go.Sx Go.ChangeShapes Go.WideShapes Go.Proofs Go.ChangeMaps
set_option maxRecDepth 100000
section
variable {H : Type} {enc : TypeId × Value → H} {W : World} {base : Nat} {v : Value} {d : DataW H} {ps : List MemPlace}

theorem i64_of (hval : Value.okWide Tryz.prog W .any base 3 v) (hd : DataW.Trod enc Tryz.prog W 0 (fun _ => true) true 3 v d ps) :
    ∃ n : Int, v = .int .i64 n ∧ -9223372036854775808 ≤ n ∧ n ≤ 9223372036854775807 := by
  obtain ⟨n, rfl, _, _, hw⟩ := open_int Tryz.underlying3 hval hd
  exact ⟨n, rfl, bounds_i64 hw⟩
theorem u64_of (hval : Value.okWide Tryz.prog W .any base 51 v) (hd : DataW.Trod enc Tryz.prog W 0 (fun _ => true) true 51 v d ps) :
    ∃ n : Nat, v = .int .u64 (n : Int) ∧ n < 18446744073709551616 := by
  obtain ⟨n, rfl, _, _, hw⟩ := open_int Tryz.underlying51 hval hd
  have := bounds_u64 hw
  exact ⟨n.toNat, by rw [Int.toNat_of_nonneg this.1], by omega⟩
theorem string_of (hval : Value.okWide Tryz.prog W .any base 9 v) (hd : DataW.Trod enc Tryz.prog W 0 (fun _ => true) true 9 v d ps) :
    ∃ s : List UInt8, v = .string ⟨s.toArray⟩ ∧ s.length ≤ maxLen := by
  obtain ⟨s, rfl, _, _, hs⟩ := open_string Tryz.underlying9 hval hd
  refine ⟨s.data.toList, rfl, ?_⟩
  rw [Array.length_toList]
  exact hs
theorem cells3 : Tryz.prog.cellsOf 3 = 1 := by kernel_rfl
theorem cells46 : Tryz.prog.cellsOf 46 = 2 := by kernel_rfl
theorem cells62 : Tryz.prog.cellsOf 62 = 2 := by kernel_rfl
theorem pair_of {t e : TypeId} {k : IntKind} (ht : Tryz.prog.underlying t = some (.array 2 e)) (he : Tryz.prog.underlying e = some (.int k)) (hct : Tryz.prog.cellsOf t = 2) (hce : Tryz.prog.cellsOf e = 1)
    (hval : Value.okWide Tryz.prog W .any base t v) (hd : DataW.Trod enc Tryz.prog W 0 (fun _ => true) true t v d ps) :
    ∃ n m : Int, v = .agg #[.int k n, .int k m] ∧ (Lit.int k n).wf = true ∧ (Lit.int k m).wf = true := by
  unfold Value.okWide at hval
  rw [ht] at hval
  obtain ⟨cs, rfl, hsz, _⟩ := hval
  rw [hct] at hsz
  obtain ⟨fuel, hf⟩ := hd
  obtain ⟨xs, m, _, _, _, hlen, hx⟩ := DataW.trod_array ht hf
  obtain ⟨a, b, rfl⟩ : ∃ a b, cs = #[a, b] := by
    obtain ⟨l⟩ := cs
    match l, hsz with
    | [a, b], _ => exact ⟨a, b, rfl⟩
  obtain ⟨x0, x1, rfl⟩ : ∃ a b, xs = [a, b] := by
    match xs, hlen with
    | [a, b], _ => exact ⟨a, b, rfl⟩
  have h0 := hx 0 (by decide)
  have h1 := hx 1 (by decide)
  rw [hce] at h0 h1
  obtain ⟨n0, e0, w0⟩ := int_cell he rfl h0
  obtain ⟨n1, e1, w1⟩ := int_cell he rfl h1
  obtain rfl : a = .int k n0 := by simpa [Value.cells] using e0
  obtain rfl : b = .int k n1 := by simpa [Value.cells] using e1
  exact ⟨n0, n1, rfl, w0, w1⟩
theorem pairI_of (hval : Value.okWide Tryz.prog W .any base 62 v) (hd : DataW.Trod enc Tryz.prog W 0 (fun _ => true) true 62 v d ps) :
    ∃ n m : Int, v = .agg #[.int .i64 n, .int .i64 m] ∧ (-9223372036854775808 ≤ n ∧ n ≤ 9223372036854775807) ∧ (-9223372036854775808 ≤ m ∧ m ≤ 9223372036854775807) := by
  obtain ⟨n, m, h, h1, h2⟩ := pair_of Tryz.underlying62 Tryz.underlying3 cells62 cells3 hval hd
  exact ⟨n, m, h, bounds_i64 h1, bounds_i64 h2⟩
theorem pairU_of (hval : Value.okWide Tryz.prog W .any base 46 v) (hd : DataW.Trod enc Tryz.prog W 0 (fun _ => true) true 46 v d ps) :
    ∃ n m : Nat, v = .agg #[.int .u16 (n : Int), .int .u16 (m : Int)] ∧ n < 65536 ∧ m < 65536 := by
  obtain ⟨n, m, h, h1, h2⟩ := pair_of Tryz.underlying46 Tryz.underlying45 cells46 cells45 hval hd
  have b1 := bounds_u16 h1
  have b2 := bounds_u16 h2
  exact ⟨n.toNat, m.toNat, by rw [Int.toNat_of_nonneg b1.1, Int.toNat_of_nonneg b2.1]; exact h, by omega, by omega⟩
end
end Go.Proofs.YtlcpdkckldlceaaGreatDoor
namespace Go.Proofs.YtlcpdkckldlceaaGreatDoor
open Go.Sx Go.Nat32 Go.Dec Go.PolyL Go.Lib Go.Proofs
attribute [local irreducible] pt sl itc itm
set_option maxRecDepth 100000
set_option linter.unusedVariables false
set_option linter.unusedSimpArgs false
set_option maxHeartbeats 1000000

theorem eval_any {M : RO} {v u t : Value} {f : Nat → Nat → Nat} {x y k : Nat} (hv : PolyV M v f) (hu : NatV M u x) (ht : NatV M t y) (lf : ∀ a b, lim k (f a b)) (lx : lim 1 x) (ly : lim 1 y) (hk : k ≤ 400000) :
    Sp Tryz.prog 26 [v, u, t] M [] fun r M' L' => L' = [] ∧ ∃ a n c, r = .agg #[.slice a n c] ∧ NatV M' (.agg #[.slice a n c]) (evalF f x y) := by
  refine (eval_spec hv hu ht lf lx ly hk).mono ?_
  rintro r M' L' _ ⟨rfl, h⟩
  obtain ⟨a, n, c, rfl⟩ := h.shape
  exact ⟨rfl, a, n, c, rfl, h⟩

theorem equalT {M : RO} {v u : Value} {x y : Nat} (hx : NatV M v x) (hy : NatV M u y) (h : x = y) :
    Sp Tryz.prog 31 [v, u] M [] fun r M' L' => L' = [] ∧ M' = M ∧ r = .bool true := by
  refine (equalN hx hy).mono ?_
  rintro r M' L' _ ⟨rfl, rfl, rfl⟩
  exact ⟨rfl, rfl, by rw [decide_eq_true h]⟩
theorem lim8_lt {z : Nat} (h : lim 8 z) : z < 10 ^ 80 := by
  have := lim_pow10 h
  exact this
theorem evalF_lim {f : Nat → Nat → Nat} {x y : Nat} (hd : ExpLe f 6) (hl : ∀ a b, f a b ≤ 8 * 4294967296) (hx : x < 65536) (hy : y < 65536) : lim 8 (evalF f x y) := by
  have h1 : ∀ k ∈ box, f k.1 k.2 * x ^ k.1 * y ^ k.2 ≤ 8 * 4294967296 * 65536 ^ 6 * 65536 ^ 6 := by
    intro k _
    by_cases h : f k.1 k.2 = 0
    · rw [h, Nat.zero_mul, Nat.zero_mul]; exact Nat.zero_le _
    · have he := hd _ _ h
      have p : ∀ {z e : Nat}, z < 65536 → e ≤ 6 → z ^ e ≤ 65536 ^ 6 := fun hz hE => Nat.le_trans (Nat.pow_le_pow_left (Nat.le_of_lt hz) _) (Nat.pow_le_pow_right (by decide) hE)
      exact Nat.mul_le_mul (Nat.mul_le_mul (hl _ _) (p hx he.1)) (p hy he.2)
  have h2 := sumL_le h1
  rw [length_box] at h2
  unfold Go.Nat32.lim evalF
  refine Nat.lt_of_le_of_lt h2 ?_
  decide

theorem eval_law {M : RO} (hT : TabM M) (hm : MaxM M) {va vb : Value} {ta tb : List (Nat × Nat × Nat)} {x y : Nat} (ha : ArgT M va ta) (hb : ArgT M vb tb) (hxy : x < 65536 ∧ y < 65536) :
    Sp0 Tryz.prog 6 [va, vb, .agg #[.int .u16 (x : Int), .int .u16 (y : Int)]] M [] fun r _ _ => r = .bool true := by
  have ha' := ha
  have hb' := hb
  obtain ⟨aa, ac, rfl, _⟩ := ha.shape
  obtain ⟨ba, bc, rfl, _⟩ := hb.shape
  obtain ⟨hx, hy⟩ := hxy
  refine Sp0.enter (n := 84) Tryz.func6 rfl Tryz.ntmps6 rfl ?_
  intro E hdr hE H
  subst hE
  refine Goes.seq (Goes.region ?_)
  refine GoL.stepS rfl rfl (bxA rfl H ?_); clear H; intro b5 w hb5 H
  refine GoL.stepS rfl rfl (asB rfl ?_)
  refine GoL.nil ?_
  refine Goes.seq ?_
  obtain ⟨K5, hb5, hle5, H⟩ := H.freezeX (i := 0) .head
  refine Goes.regionD0 mixed (by kernel_rfl) 7 H ?_
  refine Ver.read (v := .pointer _) 0 rfl (by kernel_rfl) (fun M' L' w hM H => r_indexAddrA (j := 0) tt46 tt45 rfl rfl (by decide) ⟨rfl, rfl⟩) ?_
  refine Ver.read (v := .int _ _) 1 rfl (by kernel_rfl) (fun M' L' w hM H => ldI tt45 rfl (H.ro (hM _ _ hb5)) rfl ⟨rfl, rfl⟩) ?_
  refine Ver.read (v := .pointer _) 2 rfl (by kernel_rfl) (fun M' L' w hM H => r_indexAddrA (j := 1) tt46 tt45 rfl rfl (by decide) ⟨rfl, rfl⟩) ?_
  refine Ver.read (v := .int _ _) 3 rfl (by kernel_rfl) (fun M' L' w hM H => ldI tt45 rfl (H.ro (hM _ _ hb5)) rfl ⟨rfl, rfl⟩) ?_
  refine Ver.read (v := .int _ _) 4 rfl (by kernel_rfl) (fun M' L' w hM H => asI rfl ⟨rfl, rfl⟩) ?_
  refine Ver.read (v := .int _ _) 5 rfl (by kernel_rfl) (fun M' L' w hM H => asI rfl ⟨rfl, rfl⟩) ?_
  refine Ver.fin0 (by kernel_rfl) ?_
  clear H; intro w H
  refine Goes.seq (Goes.region ?_)
  refine GoL.stepS rfl rfl (mvL rfl ?_)
  refine GoL.stepS rfl rfl (r_call cc17 (made40_spec (most := 6) (ha'.mono hle5) (by decide)) H ?_); clear H; rintro v23 M23 L23 w hM23 ⟨rfl, p23, u23, f, rfl, hf⟩ H
  refine GoL.stepS rfl rfl (mvT rfl ?_)
  obtain ⟨q23, a23, n23, c23, rfl, rfl⟩ := hf.shapes
  refine GoL.stepS rfl rfl (r_extract rfl rfl ?_)
  refine GoL.stepS rfl rfl (r_extract rfl rfl ?_)
  refine GoL.stepS rfl rfl (r_alloc tt24 H ?_); clear H; intro b9 w hb9 H
  refine GoL.step0 rfl (stA tt24 rfl rfl H (by repeat constructor) rfl rfl (by rfl) ?_); clear H; intro w H
  refine GoL.stepS rfl rfl (asL rfl ?_)
  refine GoL.nil ?_
  refine Goes.seq (Goes.region ?_)
  refine GoL.stepS rfl rfl (mvL rfl ?_)
  refine GoL.stepS rfl rfl (r_call cc17 (made40_spec (most := 6) ((hb'.mono hle5).mono hM23) (by decide)) H ?_); clear H; rintro v28 M28 L28 w hM28 ⟨rfl, p28, u28, g, rfl, hg⟩ H
  refine GoL.stepS rfl rfl (mvT rfl ?_)
  obtain ⟨q28, a28, n28, c28, rfl, rfl⟩ := hg.shapes
  refine GoL.stepS rfl rfl (r_extract rfl rfl ?_)
  refine GoL.stepS rfl rfl (r_extract rfl rfl ?_)
  refine GoL.stepS rfl rfl (r_alloc tt24 H ?_); clear H; intro b11 w hb11 H
  refine GoL.step0 rfl (stA tt24 rfl rfl H (by repeat constructor) rfl rfl (by rfl) ?_); clear H; intro w H
  refine GoL.stepS rfl rfl (asL rfl ?_)
  refine GoL.nil ?_
  refine Goes.seq (Goes.region ?_)
  refine GoL.stepS rfl rfl (mvI rfl ?_)
  refine GoL.stepS rfl rfl (r_cv_u64 tt45 tt51 rfl (by first | omega | (dsimp only; omega)) (by first | omega | (dsimp only; omega)) ?_)
  refine GoL.stepS rfl rfl (r_call cc25 (fromUint64N (x := x) (by first | omega | (dsimp only; omega))) H ?_); clear H; rintro v33 M33 L33 w hM33 ⟨rfl, h33⟩ H
  refine GoL.stepS rfl rfl (mvI rfl ?_)
  refine GoL.stepS rfl rfl (r_cv_u64 tt45 tt51 rfl (by first | omega | (dsimp only; omega)) (by first | omega | (dsimp only; omega)) ?_)
  refine GoL.stepS rfl rfl (r_call cc25 (fromUint64N (x := y) (by first | omega | (dsimp only; omega))) H ?_); clear H; rintro v36 M36 L36 w hM36 ⟨rfl, h36⟩ H
  obtain ⟨a33, n33, c33, rfl⟩ := h33.shape
  obtain ⟨a36, n36, c36, rfl⟩ := h36.shape
  refine GoL.stepS rfl rfl (r_alloc tt49 H ?_); clear H; intro b13 w hb13 H
  refine GoL.stepS rfl rfl (r_alloc tt49 H ?_); clear H; intro b14 w hb14 H
  refine GoL.step0 rfl (stA tt49 rfl rfl H (by repeat constructor) rfl rfl (by rfl) ?_); clear H; intro w H
  refine GoL.step0 rfl (stA tt49 rfl rfl H (by repeat constructor) rfl rfl (by rfl) ?_); clear H; intro w H
  refine GoL.nil ?_
  refine Goes.seq ?_
  obtain ⟨K14, hb14, hle14, H⟩ := H.freezeX (i := 0) .head
  obtain ⟨K13, hb13, hle13, H⟩ := H.freezeX (i := 0) .head
  obtain ⟨K11, hb11, hle11, H⟩ := H.freezeX (i := 0) .head
  obtain ⟨K9, hb9, hle9, H⟩ := H.freezeX (i := 0) .head
  have lK : M36.le K9 := hle14.trans (hle13.trans (hle11.trans hle9))
  have gb14 := hle9 _ _ (hle11 _ _ (hle13 _ _ hb14))
  have gb13 := hle9 _ _ (hle11 _ _ hb13)
  have gb11 := hle9 _ _ hb11
  have gT : TabM K9 := ((((((hT.mono hle5).mono hM23).mono hM28).mono hM33).mono hM36)).mono lK
  have gm : MaxM K9 := ((((((hm.mono hle5).mono hM23).mono hM28).mono hM33).mono hM36)).mono lK
  have gf := (((hf.mono hM28).mono hM33).mono hM36).mono lK
  have gg := ((hg.mono hM33).mono hM36).mono lK
  have gx := (h33.mono hM36).mono lK
  have gy := h36.mono lK
  have lf := hf.lim
  have lg := hg.lim
  have lx : lim 1 x := by unfold Go.Nat32.lim; omega
  have ly : lim 1 y := by unfold Go.Nat32.lim; omega
  refine Goes.cutT [15, 16, 37, 38, 39, 40, 41, 42, 43, 44] [] (fun (q : Nat × Nat × (Option Addr × Nat × Nat) × (Option Addr × Nat × Nat) × RO) => [(15, .pointer (some ⟨q.1, 0, none⟩)), (16, .pointer (some ⟨q.2.1, 0, none⟩))]) (fun q w => K9.le q.2.2.2.2 ∧ (∃ e z, q.2.2.2.2 q.1 = some (.cells #[.slice q.2.2.1.1 q.2.2.1.2.1 q.2.2.1.2.2] e z)) ∧ (∃ e z, q.2.2.2.2 q.2.1 = some (.cells #[.slice q.2.2.2.1.1 q.2.2.2.1.2.1 q.2.2.2.1.2.2] e z)) ∧ NatV q.2.2.2.2 (.agg #[.slice q.2.2.1.1 q.2.2.1.2.1 q.2.2.1.2.2]) (evalF f x y) ∧ NatV q.2.2.2.2 (.agg #[.slice q.2.2.2.1.1 q.2.2.2.1.2.1 q.2.2.2.1.2.2]) (evalF g x y) ∧ Hp E q.2.2.2.2 [] w) trivial ?aft ?cut
  case cut =>
    intro f0 meet
    refine Goes.regionDX mixed (by kernel_rfl) 13 H ?_
    refine Ver.read (v := .agg _) 0 rfl (by kernel_rfl) (fun M' L' w hM H => ldA tt24 rfl (H.ro (hM _ _ hb9)) rfl (by rfl) ⟨rfl, rfl⟩) ?_
    refine Ver.read (v := .agg _) 1 rfl (by kernel_rfl) (fun M' L' w hM H => ldA tt49 rfl (H.ro (hM _ _ gb13)) rfl (by rfl) ⟨rfl, rfl⟩) ?_
    refine Ver.read (v := .agg _) 2 rfl (by kernel_rfl) (fun M' L' w hM H => ldA tt49 rfl (H.ro (hM _ _ gb14)) rfl (by rfl) ⟨rfl, rfl⟩) ?_
    refine Ver.read (v := .agg _) 4 rfl (by kernel_rfl) (fun M' L' w hM H => ldA tt24 rfl (H.ro (hM _ _ gb11)) rfl (by rfl) ⟨rfl, rfl⟩) ?_
    refine Ver.read (v := .agg _) 5 rfl (by kernel_rfl) (fun M' L' w hM H => ldA tt49 rfl (H.ro (hM _ _ gb13)) rfl (by rfl) ⟨rfl, rfl⟩) ?_
    refine Ver.read (v := .agg _) 6 rfl (by kernel_rfl) (fun M' L' w hM H => ldA tt49 rfl (H.ro (hM _ _ gb14)) rfl (by rfl) ⟨rfl, rfl⟩) ?_
    refine Ver.nextsX3 3 8 9 (by kernel_rfl) rfl rfl rfl (by kernel_rfl) (by kernel_rfl) (by kernel_rfl) rfl rfl rfl ?_ ?_ ?_
    · clear H; intro w H
      refine r_call cc26 (eval_any (k := 2) gf.p gx gy lf lx ly (by first | omega | (dsimp only; omega))) H ?_
      clear H; rintro v40 M40 L40 w hM40 ⟨rfl, a40, n40, c40, rfl, h40⟩ H
      refine ⟨_, _, hM40, H, ?_⟩
      refine Ver.nextsX3 7 8 9 (by kernel_rfl) rfl rfl rfl (by kernel_rfl) (by kernel_rfl) (by kernel_rfl) rfl rfl rfl ?_ ?_ ?_
      · clear H; intro w H
        refine r_call cc26 (eval_any (k := 2) (gg.p.mono hM40) (gx.mono hM40) (gy.mono hM40) lg lx ly (by first | omega | (dsimp only; omega))) H ?_
        clear H; rintro v44 M44 L44 w hM44 ⟨rfl, a44, n44, c44, rfl, h44⟩ H
        refine ⟨_, _, hM44, H, ?_⟩
        refine Ver.nextsX2 8 9 (by kernel_rfl) rfl rfl (by kernel_rfl) (by kernel_rfl) rfl rfl ?_ ?_
        · clear H; intro w H
          refine r_alloc tt49 H ?_
          clear H; intro b15 w hb15 H
          refine ⟨_, _, RO.le.refl _, H, ?_⟩
          refine Ver.nextX 9 (by kernel_rfl) rfl (by kernel_rfl) ?_
          clear H; intro w H
          refine r_alloc tt49 H ?_
          clear H; intro b16 w hb16 H
          refine ⟨_, _, RO.le.refl _, H, ?_⟩
          refine Ver.nextX 10 (by kernel_rfl) rfl (by kernel_rfl) ?_
          clear H; intro w H
          refine stA tt49 rfl rfl H (by repeat constructor) rfl rfl (by rfl) ?_
          clear H; intro w H
          refine ⟨_, _, RO.le.refl _, H, ?_⟩
          refine Ver.nextX 11 (by kernel_rfl) rfl (by kernel_rfl) ?_
          clear H; intro w H
          refine stA tt49 rfl rfl H (by repeat constructor) rfl rfl (by rfl) ?_
          clear H; intro w H
          refine ⟨_, _, RO.le.refl _, H, ?_⟩
          refine Ver.finX (by kernel_rfl) ?_
          clear H; intro w H
          first
            | (obtain ⟨K1, hx16, hk1, H⟩ := H.freezeX (i := 0) .head
               obtain ⟨K2, hx15, hk2, H⟩ := H.freezeX (i := 0) .head
               exact meet (b15, b16, (a40, n40, c40), (a44, n44, c44), K2) _ _ ⟨rfl, rfl, trivial⟩ (.of_strip (by kernel_rfl)) ⟨hM40.trans (hM44.trans (hk1.trans hk2)), ⟨_, _, hx15⟩, ⟨_, _, hk2 _ _ hx16⟩, ((h40.mono hM44).mono hk1).mono hk2, (h44.mono hk1).mono hk2, H⟩)
            | (obtain ⟨K1, hx15, hk1, H⟩ := H.freezeX (i := 0) .head
               obtain ⟨K2, hx16, hk2, H⟩ := H.freezeX (i := 0) .head
               exact meet (b15, b16, (a40, n40, c40), (a44, n44, c44), K2) _ _ ⟨rfl, rfl, trivial⟩ (.of_strip (by kernel_rfl)) ⟨hM40.trans (hM44.trans (hk1.trans hk2)), ⟨_, _, hk2 _ _ hx15⟩, ⟨_, _, hx16⟩, ((h40.mono hM44).mono hk1).mono hk2, (h44.mono hk1).mono hk2, H⟩)
        · clear H; intro w H
          refine r_alloc tt49 H ?_
          clear H; intro b16 w hb16 H
          refine ⟨_, _, RO.le.refl _, H, ?_⟩
          refine Ver.nextX 8 (by kernel_rfl) rfl (by kernel_rfl) ?_
          clear H; intro w H
          refine r_alloc tt49 H ?_
          clear H; intro b15 w hb15 H
          refine ⟨_, _, RO.le.refl _, H, ?_⟩
          refine Ver.nextX 10 (by kernel_rfl) rfl (by kernel_rfl) ?_
          clear H; intro w H
          refine stA tt49 rfl rfl H (by repeat constructor) rfl rfl (by rfl) ?_
          clear H; intro w H
          refine ⟨_, _, RO.le.refl _, H, ?_⟩
          refine Ver.nextX 11 (by kernel_rfl) rfl (by kernel_rfl) ?_
          clear H; intro w H
          refine stA tt49 rfl rfl H (by repeat constructor) rfl rfl (by rfl) ?_
          clear H; intro w H
          refine ⟨_, _, RO.le.refl _, H, ?_⟩
          refine Ver.finX (by kernel_rfl) ?_
          clear H; intro w H
          first
            | (obtain ⟨K1, hx16, hk1, H⟩ := H.freezeX (i := 0) .head
               obtain ⟨K2, hx15, hk2, H⟩ := H.freezeX (i := 0) .head
               exact meet (b15, b16, (a40, n40, c40), (a44, n44, c44), K2) _ _ ⟨rfl, rfl, trivial⟩ (.of_strip (by kernel_rfl)) ⟨hM40.trans (hM44.trans (hk1.trans hk2)), ⟨_, _, hx15⟩, ⟨_, _, hk2 _ _ hx16⟩, ((h40.mono hM44).mono hk1).mono hk2, (h44.mono hk1).mono hk2, H⟩)
            | (obtain ⟨K1, hx15, hk1, H⟩ := H.freezeX (i := 0) .head
               obtain ⟨K2, hx16, hk2, H⟩ := H.freezeX (i := 0) .head
               exact meet (b15, b16, (a40, n40, c40), (a44, n44, c44), K2) _ _ ⟨rfl, rfl, trivial⟩ (.of_strip (by kernel_rfl)) ⟨hM40.trans (hM44.trans (hk1.trans hk2)), ⟨_, _, hk2 _ _ hx15⟩, ⟨_, _, hx16⟩, ((h40.mono hM44).mono hk1).mono hk2, (h44.mono hk1).mono hk2, H⟩)
      · clear H; intro w H
        refine r_alloc tt49 H ?_
        clear H; intro b15 w hb15 H
        refine ⟨_, _, RO.le.refl _, H, ?_⟩
        refine Ver.nextsX2 7 9 (by kernel_rfl) rfl rfl (by kernel_rfl) (by kernel_rfl) rfl rfl ?_ ?_
        · clear H; intro w H
          refine r_call cc26 (eval_any (k := 2) (gg.p.mono hM40) (gx.mono hM40) (gy.mono hM40) lg lx ly (by first | omega | (dsimp only; omega))) H ?_
          clear H; rintro v44 M44 L44 w hM44 ⟨rfl, a44, n44, c44, rfl, h44⟩ H
          refine ⟨_, _, hM44, H, ?_⟩
          refine Ver.nextX 9 (by kernel_rfl) rfl (by kernel_rfl) ?_
          clear H; intro w H
          refine r_alloc tt49 H ?_
          clear H; intro b16 w hb16 H
          refine ⟨_, _, RO.le.refl _, H, ?_⟩
          refine Ver.nextX 10 (by kernel_rfl) rfl (by kernel_rfl) ?_
          clear H; intro w H
          refine stA tt49 rfl rfl H (by repeat constructor) rfl rfl (by rfl) ?_
          clear H; intro w H
          refine ⟨_, _, RO.le.refl _, H, ?_⟩
          refine Ver.nextX 11 (by kernel_rfl) rfl (by kernel_rfl) ?_
          clear H; intro w H
          refine stA tt49 rfl rfl H (by repeat constructor) rfl rfl (by rfl) ?_
          clear H; intro w H
          refine ⟨_, _, RO.le.refl _, H, ?_⟩
          refine Ver.finX (by kernel_rfl) ?_
          clear H; intro w H
          first
            | (obtain ⟨K1, hx16, hk1, H⟩ := H.freezeX (i := 0) .head
               obtain ⟨K2, hx15, hk2, H⟩ := H.freezeX (i := 0) .head
               exact meet (b15, b16, (a40, n40, c40), (a44, n44, c44), K2) _ _ ⟨rfl, rfl, trivial⟩ (.of_strip (by kernel_rfl)) ⟨hM40.trans (hM44.trans (hk1.trans hk2)), ⟨_, _, hx15⟩, ⟨_, _, hk2 _ _ hx16⟩, ((h40.mono hM44).mono hk1).mono hk2, (h44.mono hk1).mono hk2, H⟩)
            | (obtain ⟨K1, hx15, hk1, H⟩ := H.freezeX (i := 0) .head
               obtain ⟨K2, hx16, hk2, H⟩ := H.freezeX (i := 0) .head
               exact meet (b15, b16, (a40, n40, c40), (a44, n44, c44), K2) _ _ ⟨rfl, rfl, trivial⟩ (.of_strip (by kernel_rfl)) ⟨hM40.trans (hM44.trans (hk1.trans hk2)), ⟨_, _, hk2 _ _ hx15⟩, ⟨_, _, hx16⟩, ((h40.mono hM44).mono hk1).mono hk2, (h44.mono hk1).mono hk2, H⟩)
        · clear H; intro w H
          refine r_alloc tt49 H ?_
          clear H; intro b16 w hb16 H
          refine ⟨_, _, RO.le.refl _, H, ?_⟩
          refine Ver.nextX 7 (by kernel_rfl) rfl (by kernel_rfl) ?_
          clear H; intro w H
          refine r_call cc26 (eval_any (k := 2) (gg.p.mono hM40) (gx.mono hM40) (gy.mono hM40) lg lx ly (by first | omega | (dsimp only; omega))) H ?_
          clear H; rintro v44 M44 L44 w hM44 ⟨rfl, a44, n44, c44, rfl, h44⟩ H
          refine ⟨_, _, hM44, H, ?_⟩
          refine Ver.nextX 10 (by kernel_rfl) rfl (by kernel_rfl) ?_
          clear H; intro w H
          refine stA tt49 rfl rfl H (by repeat constructor) rfl rfl (by rfl) ?_
          clear H; intro w H
          refine ⟨_, _, RO.le.refl _, H, ?_⟩
          refine Ver.nextX 11 (by kernel_rfl) rfl (by kernel_rfl) ?_
          clear H; intro w H
          refine stA tt49 rfl rfl H (by repeat constructor) rfl rfl (by rfl) ?_
          clear H; intro w H
          refine ⟨_, _, RO.le.refl _, H, ?_⟩
          refine Ver.finX (by kernel_rfl) ?_
          clear H; intro w H
          first
            | (obtain ⟨K1, hx16, hk1, H⟩ := H.freezeX (i := 0) .head
               obtain ⟨K2, hx15, hk2, H⟩ := H.freezeX (i := 0) .head
               exact meet (b15, b16, (a40, n40, c40), (a44, n44, c44), K2) _ _ ⟨rfl, rfl, trivial⟩ (.of_strip (by kernel_rfl)) ⟨hM40.trans (hM44.trans (hk1.trans hk2)), ⟨_, _, hx15⟩, ⟨_, _, hk2 _ _ hx16⟩, ((h40.mono hM44).mono hk1).mono hk2, (h44.mono hk1).mono hk2, H⟩)
            | (obtain ⟨K1, hx15, hk1, H⟩ := H.freezeX (i := 0) .head
               obtain ⟨K2, hx16, hk2, H⟩ := H.freezeX (i := 0) .head
               exact meet (b15, b16, (a40, n40, c40), (a44, n44, c44), K2) _ _ ⟨rfl, rfl, trivial⟩ (.of_strip (by kernel_rfl)) ⟨hM40.trans (hM44.trans (hk1.trans hk2)), ⟨_, _, hk2 _ _ hx15⟩, ⟨_, _, hx16⟩, ((h40.mono hM44).mono hk1).mono hk2, (h44.mono hk1).mono hk2, H⟩)
      · clear H; intro w H
        refine r_alloc tt49 H ?_
        clear H; intro b16 w hb16 H
        refine ⟨_, _, RO.le.refl _, H, ?_⟩
        refine Ver.nextsX2 7 8 (by kernel_rfl) rfl rfl (by kernel_rfl) (by kernel_rfl) rfl rfl ?_ ?_
        · clear H; intro w H
          refine r_call cc26 (eval_any (k := 2) (gg.p.mono hM40) (gx.mono hM40) (gy.mono hM40) lg lx ly (by first | omega | (dsimp only; omega))) H ?_
          clear H; rintro v44 M44 L44 w hM44 ⟨rfl, a44, n44, c44, rfl, h44⟩ H
          refine ⟨_, _, hM44, H, ?_⟩
          refine Ver.nextX 8 (by kernel_rfl) rfl (by kernel_rfl) ?_
          clear H; intro w H
          refine r_alloc tt49 H ?_
          clear H; intro b15 w hb15 H
          refine ⟨_, _, RO.le.refl _, H, ?_⟩
          refine Ver.nextX 10 (by kernel_rfl) rfl (by kernel_rfl) ?_
          clear H; intro w H
          refine stA tt49 rfl rfl H (by repeat constructor) rfl rfl (by rfl) ?_
          clear H; intro w H
          refine ⟨_, _, RO.le.refl _, H, ?_⟩
          refine Ver.nextX 11 (by kernel_rfl) rfl (by kernel_rfl) ?_
          clear H; intro w H
          refine stA tt49 rfl rfl H (by repeat constructor) rfl rfl (by rfl) ?_
          clear H; intro w H
          refine ⟨_, _, RO.le.refl _, H, ?_⟩
          refine Ver.finX (by kernel_rfl) ?_
          clear H; intro w H
          first
            | (obtain ⟨K1, hx16, hk1, H⟩ := H.freezeX (i := 0) .head
               obtain ⟨K2, hx15, hk2, H⟩ := H.freezeX (i := 0) .head
               exact meet (b15, b16, (a40, n40, c40), (a44, n44, c44), K2) _ _ ⟨rfl, rfl, trivial⟩ (.of_strip (by kernel_rfl)) ⟨hM40.trans (hM44.trans (hk1.trans hk2)), ⟨_, _, hx15⟩, ⟨_, _, hk2 _ _ hx16⟩, ((h40.mono hM44).mono hk1).mono hk2, (h44.mono hk1).mono hk2, H⟩)
            | (obtain ⟨K1, hx15, hk1, H⟩ := H.freezeX (i := 0) .head
               obtain ⟨K2, hx16, hk2, H⟩ := H.freezeX (i := 0) .head
               exact meet (b15, b16, (a40, n40, c40), (a44, n44, c44), K2) _ _ ⟨rfl, rfl, trivial⟩ (.of_strip (by kernel_rfl)) ⟨hM40.trans (hM44.trans (hk1.trans hk2)), ⟨_, _, hk2 _ _ hx15⟩, ⟨_, _, hx16⟩, ((h40.mono hM44).mono hk1).mono hk2, (h44.mono hk1).mono hk2, H⟩)
        · clear H; intro w H
          refine r_alloc tt49 H ?_
          clear H; intro b15 w hb15 H
          refine ⟨_, _, RO.le.refl _, H, ?_⟩
          refine Ver.nextX 7 (by kernel_rfl) rfl (by kernel_rfl) ?_
          clear H; intro w H
          refine r_call cc26 (eval_any (k := 2) (gg.p.mono hM40) (gx.mono hM40) (gy.mono hM40) lg lx ly (by first | omega | (dsimp only; omega))) H ?_
          clear H; rintro v44 M44 L44 w hM44 ⟨rfl, a44, n44, c44, rfl, h44⟩ H
          refine ⟨_, _, hM44, H, ?_⟩
          refine Ver.nextX 10 (by kernel_rfl) rfl (by kernel_rfl) ?_
          clear H; intro w H
          refine stA tt49 rfl rfl H (by repeat constructor) rfl rfl (by rfl) ?_
          clear H; intro w H
          refine ⟨_, _, RO.le.refl _, H, ?_⟩
          refine Ver.nextX 11 (by kernel_rfl) rfl (by kernel_rfl) ?_
          clear H; intro w H
          refine stA tt49 rfl rfl H (by repeat constructor) rfl rfl (by rfl) ?_
          clear H; intro w H
          refine ⟨_, _, RO.le.refl _, H, ?_⟩
          refine Ver.finX (by kernel_rfl) ?_
          clear H; intro w H
          first
            | (obtain ⟨K1, hx16, hk1, H⟩ := H.freezeX (i := 0) .head
               obtain ⟨K2, hx15, hk2, H⟩ := H.freezeX (i := 0) .head
               exact meet (b15, b16, (a40, n40, c40), (a44, n44, c44), K2) _ _ ⟨rfl, rfl, trivial⟩ (.of_strip (by kernel_rfl)) ⟨hM40.trans (hM44.trans (hk1.trans hk2)), ⟨_, _, hx15⟩, ⟨_, _, hk2 _ _ hx16⟩, ((h40.mono hM44).mono hk1).mono hk2, (h44.mono hk1).mono hk2, H⟩)
            | (obtain ⟨K1, hx15, hk1, H⟩ := H.freezeX (i := 0) .head
               obtain ⟨K2, hx16, hk2, H⟩ := H.freezeX (i := 0) .head
               exact meet (b15, b16, (a40, n40, c40), (a44, n44, c44), K2) _ _ ⟨rfl, rfl, trivial⟩ (.of_strip (by kernel_rfl)) ⟨hM40.trans (hM44.trans (hk1.trans hk2)), ⟨_, _, hk2 _ _ hx15⟩, ⟨_, _, hx16⟩, ((h40.mono hM44).mono hk1).mono hk2, (h44.mono hk1).mono hk2, H⟩)
    · clear H; intro w H
      refine r_alloc tt49 H ?_
      clear H; intro b15 w hb15 H
      refine ⟨_, _, RO.le.refl _, H, ?_⟩
      refine Ver.nextsX2 3 9 (by kernel_rfl) rfl rfl (by kernel_rfl) (by kernel_rfl) rfl rfl ?_ ?_
      · clear H; intro w H
        refine r_call cc26 (eval_any (k := 2) gf.p gx gy lf lx ly (by first | omega | (dsimp only; omega))) H ?_
        clear H; rintro v40 M40 L40 w hM40 ⟨rfl, a40, n40, c40, rfl, h40⟩ H
        refine ⟨_, _, hM40, H, ?_⟩
        refine Ver.nextsX2 7 9 (by kernel_rfl) rfl rfl (by kernel_rfl) (by kernel_rfl) rfl rfl ?_ ?_
        · clear H; intro w H
          refine r_call cc26 (eval_any (k := 2) (gg.p.mono hM40) (gx.mono hM40) (gy.mono hM40) lg lx ly (by first | omega | (dsimp only; omega))) H ?_
          clear H; rintro v44 M44 L44 w hM44 ⟨rfl, a44, n44, c44, rfl, h44⟩ H
          refine ⟨_, _, hM44, H, ?_⟩
          refine Ver.nextX 9 (by kernel_rfl) rfl (by kernel_rfl) ?_
          clear H; intro w H
          refine r_alloc tt49 H ?_
          clear H; intro b16 w hb16 H
          refine ⟨_, _, RO.le.refl _, H, ?_⟩
          refine Ver.nextX 10 (by kernel_rfl) rfl (by kernel_rfl) ?_
          clear H; intro w H
          refine stA tt49 rfl rfl H (by repeat constructor) rfl rfl (by rfl) ?_
          clear H; intro w H
          refine ⟨_, _, RO.le.refl _, H, ?_⟩
          refine Ver.nextX 11 (by kernel_rfl) rfl (by kernel_rfl) ?_
          clear H; intro w H
          refine stA tt49 rfl rfl H (by repeat constructor) rfl rfl (by rfl) ?_
          clear H; intro w H
          refine ⟨_, _, RO.le.refl _, H, ?_⟩
          refine Ver.finX (by kernel_rfl) ?_
          clear H; intro w H
          first
            | (obtain ⟨K1, hx16, hk1, H⟩ := H.freezeX (i := 0) .head
               obtain ⟨K2, hx15, hk2, H⟩ := H.freezeX (i := 0) .head
               exact meet (b15, b16, (a40, n40, c40), (a44, n44, c44), K2) _ _ ⟨rfl, rfl, trivial⟩ (.of_strip (by kernel_rfl)) ⟨hM40.trans (hM44.trans (hk1.trans hk2)), ⟨_, _, hx15⟩, ⟨_, _, hk2 _ _ hx16⟩, ((h40.mono hM44).mono hk1).mono hk2, (h44.mono hk1).mono hk2, H⟩)
            | (obtain ⟨K1, hx15, hk1, H⟩ := H.freezeX (i := 0) .head
               obtain ⟨K2, hx16, hk2, H⟩ := H.freezeX (i := 0) .head
               exact meet (b15, b16, (a40, n40, c40), (a44, n44, c44), K2) _ _ ⟨rfl, rfl, trivial⟩ (.of_strip (by kernel_rfl)) ⟨hM40.trans (hM44.trans (hk1.trans hk2)), ⟨_, _, hk2 _ _ hx15⟩, ⟨_, _, hx16⟩, ((h40.mono hM44).mono hk1).mono hk2, (h44.mono hk1).mono hk2, H⟩)
        · clear H; intro w H
          refine r_alloc tt49 H ?_
          clear H; intro b16 w hb16 H
          refine ⟨_, _, RO.le.refl _, H, ?_⟩
          refine Ver.nextX 7 (by kernel_rfl) rfl (by kernel_rfl) ?_
          clear H; intro w H
          refine r_call cc26 (eval_any (k := 2) (gg.p.mono hM40) (gx.mono hM40) (gy.mono hM40) lg lx ly (by first | omega | (dsimp only; omega))) H ?_
          clear H; rintro v44 M44 L44 w hM44 ⟨rfl, a44, n44, c44, rfl, h44⟩ H
          refine ⟨_, _, hM44, H, ?_⟩
          refine Ver.nextX 10 (by kernel_rfl) rfl (by kernel_rfl) ?_
          clear H; intro w H
          refine stA tt49 rfl rfl H (by repeat constructor) rfl rfl (by rfl) ?_
          clear H; intro w H
          refine ⟨_, _, RO.le.refl _, H, ?_⟩
          refine Ver.nextX 11 (by kernel_rfl) rfl (by kernel_rfl) ?_
          clear H; intro w H
          refine stA tt49 rfl rfl H (by repeat constructor) rfl rfl (by rfl) ?_
          clear H; intro w H
          refine ⟨_, _, RO.le.refl _, H, ?_⟩
          refine Ver.finX (by kernel_rfl) ?_
          clear H; intro w H
          first
            | (obtain ⟨K1, hx16, hk1, H⟩ := H.freezeX (i := 0) .head
               obtain ⟨K2, hx15, hk2, H⟩ := H.freezeX (i := 0) .head
               exact meet (b15, b16, (a40, n40, c40), (a44, n44, c44), K2) _ _ ⟨rfl, rfl, trivial⟩ (.of_strip (by kernel_rfl)) ⟨hM40.trans (hM44.trans (hk1.trans hk2)), ⟨_, _, hx15⟩, ⟨_, _, hk2 _ _ hx16⟩, ((h40.mono hM44).mono hk1).mono hk2, (h44.mono hk1).mono hk2, H⟩)
            | (obtain ⟨K1, hx15, hk1, H⟩ := H.freezeX (i := 0) .head
               obtain ⟨K2, hx16, hk2, H⟩ := H.freezeX (i := 0) .head
               exact meet (b15, b16, (a40, n40, c40), (a44, n44, c44), K2) _ _ ⟨rfl, rfl, trivial⟩ (.of_strip (by kernel_rfl)) ⟨hM40.trans (hM44.trans (hk1.trans hk2)), ⟨_, _, hk2 _ _ hx15⟩, ⟨_, _, hx16⟩, ((h40.mono hM44).mono hk1).mono hk2, (h44.mono hk1).mono hk2, H⟩)
      · clear H; intro w H
        refine r_alloc tt49 H ?_
        clear H; intro b16 w hb16 H
        refine ⟨_, _, RO.le.refl _, H, ?_⟩
        refine Ver.nextX 3 (by kernel_rfl) rfl (by kernel_rfl) ?_
        clear H; intro w H
        refine r_call cc26 (eval_any (k := 2) gf.p gx gy lf lx ly (by first | omega | (dsimp only; omega))) H ?_
        clear H; rintro v40 M40 L40 w hM40 ⟨rfl, a40, n40, c40, rfl, h40⟩ H
        refine ⟨_, _, hM40, H, ?_⟩
        refine Ver.nextX 7 (by kernel_rfl) rfl (by kernel_rfl) ?_
        clear H; intro w H
        refine r_call cc26 (eval_any (k := 2) (gg.p.mono hM40) (gx.mono hM40) (gy.mono hM40) lg lx ly (by first | omega | (dsimp only; omega))) H ?_
        clear H; rintro v44 M44 L44 w hM44 ⟨rfl, a44, n44, c44, rfl, h44⟩ H
        refine ⟨_, _, hM44, H, ?_⟩
        refine Ver.nextX 10 (by kernel_rfl) rfl (by kernel_rfl) ?_
        clear H; intro w H
        refine stA tt49 rfl rfl H (by repeat constructor) rfl rfl (by rfl) ?_
        clear H; intro w H
        refine ⟨_, _, RO.le.refl _, H, ?_⟩
        refine Ver.nextX 11 (by kernel_rfl) rfl (by kernel_rfl) ?_
        clear H; intro w H
        refine stA tt49 rfl rfl H (by repeat constructor) rfl rfl (by rfl) ?_
        clear H; intro w H
        refine ⟨_, _, RO.le.refl _, H, ?_⟩
        refine Ver.finX (by kernel_rfl) ?_
        clear H; intro w H
        first
          | (obtain ⟨K1, hx16, hk1, H⟩ := H.freezeX (i := 0) .head
             obtain ⟨K2, hx15, hk2, H⟩ := H.freezeX (i := 0) .head
             exact meet (b15, b16, (a40, n40, c40), (a44, n44, c44), K2) _ _ ⟨rfl, rfl, trivial⟩ (.of_strip (by kernel_rfl)) ⟨hM40.trans (hM44.trans (hk1.trans hk2)), ⟨_, _, hx15⟩, ⟨_, _, hk2 _ _ hx16⟩, ((h40.mono hM44).mono hk1).mono hk2, (h44.mono hk1).mono hk2, H⟩)
          | (obtain ⟨K1, hx15, hk1, H⟩ := H.freezeX (i := 0) .head
             obtain ⟨K2, hx16, hk2, H⟩ := H.freezeX (i := 0) .head
             exact meet (b15, b16, (a40, n40, c40), (a44, n44, c44), K2) _ _ ⟨rfl, rfl, trivial⟩ (.of_strip (by kernel_rfl)) ⟨hM40.trans (hM44.trans (hk1.trans hk2)), ⟨_, _, hk2 _ _ hx15⟩, ⟨_, _, hx16⟩, ((h40.mono hM44).mono hk1).mono hk2, (h44.mono hk1).mono hk2, H⟩)
    · clear H; intro w H
      refine r_alloc tt49 H ?_
      clear H; intro b16 w hb16 H
      refine ⟨_, _, RO.le.refl _, H, ?_⟩
      refine Ver.nextsX2 3 8 (by kernel_rfl) rfl rfl (by kernel_rfl) (by kernel_rfl) rfl rfl ?_ ?_
      · clear H; intro w H
        refine r_call cc26 (eval_any (k := 2) gf.p gx gy lf lx ly (by first | omega | (dsimp only; omega))) H ?_
        clear H; rintro v40 M40 L40 w hM40 ⟨rfl, a40, n40, c40, rfl, h40⟩ H
        refine ⟨_, _, hM40, H, ?_⟩
        refine Ver.nextsX2 7 8 (by kernel_rfl) rfl rfl (by kernel_rfl) (by kernel_rfl) rfl rfl ?_ ?_
        · clear H; intro w H
          refine r_call cc26 (eval_any (k := 2) (gg.p.mono hM40) (gx.mono hM40) (gy.mono hM40) lg lx ly (by first | omega | (dsimp only; omega))) H ?_
          clear H; rintro v44 M44 L44 w hM44 ⟨rfl, a44, n44, c44, rfl, h44⟩ H
          refine ⟨_, _, hM44, H, ?_⟩
          refine Ver.nextX 8 (by kernel_rfl) rfl (by kernel_rfl) ?_
          clear H; intro w H
          refine r_alloc tt49 H ?_
          clear H; intro b15 w hb15 H
          refine ⟨_, _, RO.le.refl _, H, ?_⟩
          refine Ver.nextX 10 (by kernel_rfl) rfl (by kernel_rfl) ?_
          clear H; intro w H
          refine stA tt49 rfl rfl H (by repeat constructor) rfl rfl (by rfl) ?_
          clear H; intro w H
          refine ⟨_, _, RO.le.refl _, H, ?_⟩
          refine Ver.nextX 11 (by kernel_rfl) rfl (by kernel_rfl) ?_
          clear H; intro w H
          refine stA tt49 rfl rfl H (by repeat constructor) rfl rfl (by rfl) ?_
          clear H; intro w H
          refine ⟨_, _, RO.le.refl _, H, ?_⟩
          refine Ver.finX (by kernel_rfl) ?_
          clear H; intro w H
          first
            | (obtain ⟨K1, hx16, hk1, H⟩ := H.freezeX (i := 0) .head
               obtain ⟨K2, hx15, hk2, H⟩ := H.freezeX (i := 0) .head
               exact meet (b15, b16, (a40, n40, c40), (a44, n44, c44), K2) _ _ ⟨rfl, rfl, trivial⟩ (.of_strip (by kernel_rfl)) ⟨hM40.trans (hM44.trans (hk1.trans hk2)), ⟨_, _, hx15⟩, ⟨_, _, hk2 _ _ hx16⟩, ((h40.mono hM44).mono hk1).mono hk2, (h44.mono hk1).mono hk2, H⟩)
            | (obtain ⟨K1, hx15, hk1, H⟩ := H.freezeX (i := 0) .head
               obtain ⟨K2, hx16, hk2, H⟩ := H.freezeX (i := 0) .head
               exact meet (b15, b16, (a40, n40, c40), (a44, n44, c44), K2) _ _ ⟨rfl, rfl, trivial⟩ (.of_strip (by kernel_rfl)) ⟨hM40.trans (hM44.trans (hk1.trans hk2)), ⟨_, _, hk2 _ _ hx15⟩, ⟨_, _, hx16⟩, ((h40.mono hM44).mono hk1).mono hk2, (h44.mono hk1).mono hk2, H⟩)
        · clear H; intro w H
          refine r_alloc tt49 H ?_
          clear H; intro b15 w hb15 H
          refine ⟨_, _, RO.le.refl _, H, ?_⟩
          refine Ver.nextX 7 (by kernel_rfl) rfl (by kernel_rfl) ?_
          clear H; intro w H
          refine r_call cc26 (eval_any (k := 2) (gg.p.mono hM40) (gx.mono hM40) (gy.mono hM40) lg lx ly (by first | omega | (dsimp only; omega))) H ?_
          clear H; rintro v44 M44 L44 w hM44 ⟨rfl, a44, n44, c44, rfl, h44⟩ H
          refine ⟨_, _, hM44, H, ?_⟩
          refine Ver.nextX 10 (by kernel_rfl) rfl (by kernel_rfl) ?_
          clear H; intro w H
          refine stA tt49 rfl rfl H (by repeat constructor) rfl rfl (by rfl) ?_
          clear H; intro w H
          refine ⟨_, _, RO.le.refl _, H, ?_⟩
          refine Ver.nextX 11 (by kernel_rfl) rfl (by kernel_rfl) ?_
          clear H; intro w H
          refine stA tt49 rfl rfl H (by repeat constructor) rfl rfl (by rfl) ?_
          clear H; intro w H
          refine ⟨_, _, RO.le.refl _, H, ?_⟩
          refine Ver.finX (by kernel_rfl) ?_
          clear H; intro w H
          first
            | (obtain ⟨K1, hx16, hk1, H⟩ := H.freezeX (i := 0) .head
               obtain ⟨K2, hx15, hk2, H⟩ := H.freezeX (i := 0) .head
               exact meet (b15, b16, (a40, n40, c40), (a44, n44, c44), K2) _ _ ⟨rfl, rfl, trivial⟩ (.of_strip (by kernel_rfl)) ⟨hM40.trans (hM44.trans (hk1.trans hk2)), ⟨_, _, hx15⟩, ⟨_, _, hk2 _ _ hx16⟩, ((h40.mono hM44).mono hk1).mono hk2, (h44.mono hk1).mono hk2, H⟩)
            | (obtain ⟨K1, hx15, hk1, H⟩ := H.freezeX (i := 0) .head
               obtain ⟨K2, hx16, hk2, H⟩ := H.freezeX (i := 0) .head
               exact meet (b15, b16, (a40, n40, c40), (a44, n44, c44), K2) _ _ ⟨rfl, rfl, trivial⟩ (.of_strip (by kernel_rfl)) ⟨hM40.trans (hM44.trans (hk1.trans hk2)), ⟨_, _, hk2 _ _ hx15⟩, ⟨_, _, hx16⟩, ((h40.mono hM44).mono hk1).mono hk2, (h44.mono hk1).mono hk2, H⟩)
      · clear H; intro w H
        refine r_alloc tt49 H ?_
        clear H; intro b15 w hb15 H
        refine ⟨_, _, RO.le.refl _, H, ?_⟩
        refine Ver.nextX 3 (by kernel_rfl) rfl (by kernel_rfl) ?_
        clear H; intro w H
        refine r_call cc26 (eval_any (k := 2) gf.p gx gy lf lx ly (by first | omega | (dsimp only; omega))) H ?_
        clear H; rintro v40 M40 L40 w hM40 ⟨rfl, a40, n40, c40, rfl, h40⟩ H
        refine ⟨_, _, hM40, H, ?_⟩
        refine Ver.nextX 7 (by kernel_rfl) rfl (by kernel_rfl) ?_
        clear H; intro w H
        refine r_call cc26 (eval_any (k := 2) (gg.p.mono hM40) (gx.mono hM40) (gy.mono hM40) lg lx ly (by first | omega | (dsimp only; omega))) H ?_
        clear H; rintro v44 M44 L44 w hM44 ⟨rfl, a44, n44, c44, rfl, h44⟩ H
        refine ⟨_, _, hM44, H, ?_⟩
        refine Ver.nextX 10 (by kernel_rfl) rfl (by kernel_rfl) ?_
        clear H; intro w H
        refine stA tt49 rfl rfl H (by repeat constructor) rfl rfl (by rfl) ?_
        clear H; intro w H
        refine ⟨_, _, RO.le.refl _, H, ?_⟩
        refine Ver.nextX 11 (by kernel_rfl) rfl (by kernel_rfl) ?_
        clear H; intro w H
        refine stA tt49 rfl rfl H (by repeat constructor) rfl rfl (by rfl) ?_
        clear H; intro w H
        refine ⟨_, _, RO.le.refl _, H, ?_⟩
        refine Ver.finX (by kernel_rfl) ?_
        clear H; intro w H
        first
          | (obtain ⟨K1, hx16, hk1, H⟩ := H.freezeX (i := 0) .head
             obtain ⟨K2, hx15, hk2, H⟩ := H.freezeX (i := 0) .head
             exact meet (b15, b16, (a40, n40, c40), (a44, n44, c44), K2) _ _ ⟨rfl, rfl, trivial⟩ (.of_strip (by kernel_rfl)) ⟨hM40.trans (hM44.trans (hk1.trans hk2)), ⟨_, _, hx15⟩, ⟨_, _, hk2 _ _ hx16⟩, ((h40.mono hM44).mono hk1).mono hk2, (h44.mono hk1).mono hk2, H⟩)
          | (obtain ⟨K1, hx15, hk1, H⟩ := H.freezeX (i := 0) .head
             obtain ⟨K2, hx16, hk2, H⟩ := H.freezeX (i := 0) .head
             exact meet (b15, b16, (a40, n40, c40), (a44, n44, c44), K2) _ _ ⟨rfl, rfl, trivial⟩ (.of_strip (by kernel_rfl)) ⟨hM40.trans (hM44.trans (hk1.trans hk2)), ⟨_, _, hk2 _ _ hx15⟩, ⟨_, _, hx16⟩, ((h40.mono hM44).mono hk1).mono hk2, (h44.mono hk1).mono hk2, H⟩)
  case aft =>
    clear H
    rintro ⟨b15, b16, ⟨a40, n40, c40⟩, ⟨a44, n44, c44⟩, M1⟩ f1 w ⟨hM1, ⟨e15, z15, hb15⟩, ⟨e16, z16, hb16⟩, h40, h44, H⟩
    dsimp only at hM1 hb15 hb16 h40 h44 H
    have luf : lim 8 (evalF f x y) := evalF_lim gf.ex gf.le hx hy
    have luv : lim 8 (evalF g x y) := evalF_lim gg.ex gg.le hx hy
    have x11 : x < 10 ^ 11 := by have e11 : (10 : Nat) ^ 11 = 100000000000 := rfl
                                 rw [e11]; omega
    have y11 : y < 10 ^ 11 := by have e11 : (10 : Nat) ^ 11 = 100000000000 := rfl
                                 rw [e11]; omega
    refine Goes.seq ?_
    refine Goes.regionDX mixed (by kernel_rfl) 41 H ?_
    refine Ver.nextX 0 (by kernel_rfl) rfl (by kernel_rfl) ?_
    clear H; intro w H
    refine r_call0 hdr cc14 (known_spec (gT.mono hM1) (gm.mono hM1)) H ?_
    clear H; rintro v45 M45 L45 w hM45 ⟨rfl, rfl⟩ H
    refine ⟨_, _, hM45, H, ?_⟩
    refine Ver.read (v := .bool _) 1 rfl (by kernel_rfl) (fun M' L' w hM H => mvB rfl ⟨rfl, rfl⟩) ?_
    refine Ver.readY (v := .agg _) 2 rfl (by kernel_rfl) rfl (fun M' L' w hM H => ldA tt49 rfl (H.ro (hM _ _ (hM45 _ _ hb15))) rfl (by rfl) ⟨rfl, rfl⟩) ?_
    refine Ver.readY (v := .slice _ _ _) 4 rfl (by kernel_rfl) rfl (fun M' L' w hM H => mvL rfl ⟨rfl, rfl⟩) ?_
    refine Ver.readY (v := .int _ _) 5 rfl (by kernel_rfl) rfl (fun M' L' w hM H => mvI rfl ⟨rfl, rfl⟩) ?_
    refine Ver.readY (v := .int _ _) 6 rfl (by kernel_rfl) rfl (fun M' L' w hM H => r_cv_u64 tt45 tt51 rfl (by first | omega | (dsimp only; omega)) (by first | omega | (dsimp only; omega)) ⟨rfl, rfl⟩) ?_
    refine Ver.readY (v := .int _ _) 8 rfl (by kernel_rfl) rfl (fun M' L' w hM H => mvI rfl ⟨rfl, rfl⟩) ?_
    refine Ver.readY (v := .int _ _) 9 rfl (by kernel_rfl) rfl (fun M' L' w hM H => r_cv_u64 tt45 tt51 rfl (by first | omega | (dsimp only; omega)) (by first | omega | (dsimp only; omega)) ⟨rfl, rfl⟩) ?_
    refine Ver.nextXY 3 (by kernel_rfl) rfl (by kernel_rfl) rfl ?_
    clear H; intro w H
    refine r_call0 hdr cc27 (natString_spec (k := 8) ((gT.mono hM1).mono hM45) (h40.mono hM45) luf (by first | omega | (dsimp only; omega))) H ?_
    clear H; rintro v48 M48 L48 w hM48 ⟨rfl, rfl⟩ H
    refine ⟨_, _, hM48, H, ?_⟩
    refine Ver.nextXY 7 (by kernel_rfl) rfl (by kernel_rfl) rfl ?_
    clear H; intro w H
    refine r_call cc30 (rof_spec (x := x) (by first | omega | (dsimp only; omega))) H ?_
    clear H; rintro v52 M52 L52 w hM52 ⟨rfl, h52⟩ H
    refine ⟨_, _, hM52, H, ?_⟩
    refine Ver.nextXY 10 (by kernel_rfl) rfl (by kernel_rfl) rfl ?_
    clear H; intro w H
    refine r_call cc30 (rof_spec (x := y) (by first | omega | (dsimp only; omega))) H ?_
    clear H; rintro v55 M55 L55 w hM55 ⟨rfl, h55⟩ H
    refine ⟨_, _, hM55, H, ?_⟩
    refine Ver.nextXY 11 (by kernel_rfl) rfl (by kernel_rfl) rfl ?_
    clear H; intro w H
    refine r_call cc29 (rvalue_spec (k := 11) (d := 6) (((((gf.r.mono hM1).mono hM45).mono hM48).mono hM52).mono hM55) (h52.mono hM55) h55 x11 y11 gf.lt gf.ex (by first | omega | (dsimp only; omega)) (by first | omega | (dsimp only; omega))) H ?_
    clear H; rintro v56 M56 L56 w hM56 ⟨rfl, h56⟩ H
    refine ⟨_, _, hM56, H, ?_⟩
    refine Ver.nextXY 12 (by kernel_rfl) rfl (by kernel_rfl) rfl ?_
    clear H; intro w H
    refine r_call cc28 (rtext_spec (k := 80) h56 (lim8_lt luf) (by first | omega | (dsimp only; omega))) H ?_
    clear H; rintro v57 M57 L57 w hM57 ⟨rfl, rfl⟩ H
    refine ⟨_, _, hM57, H, ?_⟩
    refine Ver.readY (v := .bool _) 13 rfl (by kernel_rfl) rfl (fun M' L' w hM H => r_eqlST rfl rfl rfl ⟨rfl, rfl⟩) ?_
    refine Ver.read (v := .bool _) 14 rfl (by kernel_rfl) (fun M' L' w hM H => r_pickB rfl rfl rfl ⟨rfl, rfl⟩) ?_
    refine Ver.read (v := .bool _) 15 rfl (by kernel_rfl) (fun M' L' w hM H => mvB rfl ⟨rfl, rfl⟩) ?_
    refine Ver.readY (v := .agg _) 16 rfl (by kernel_rfl) rfl (fun M' L' w hM H => ldA tt24 rfl (H.ro (hM _ _ (hM57 _ _ (hM56 _ _ (hM55 _ _ (hM52 _ _ (hM48 _ _ (hM45 _ _ (hM1 _ _ hb9))))))))) rfl (by rfl) ⟨rfl, rfl⟩) ?_
    refine Ver.readY (v := .agg _) 17 rfl (by kernel_rfl) rfl (fun M' L' w hM H => ldA tt24 rfl (H.ro (hM _ _ (hM57 _ _ (hM56 _ _ (hM55 _ _ (hM52 _ _ (hM48 _ _ (hM45 _ _ (hM1 _ _ gb11))))))))) rfl (by rfl) ⟨rfl, rfl⟩) ?_
    refine Ver.readY (v := .agg _) 19 rfl (by kernel_rfl) rfl (fun M' L' w hM H => ldA tt49 rfl (H.ro (hM _ _ (hM57 _ _ (hM56 _ _ (hM55 _ _ (hM52 _ _ (hM48 _ _ (hM45 _ _ (hM1 _ _ gb13))))))))) rfl (by rfl) ⟨rfl, rfl⟩) ?_
    refine Ver.readY (v := .agg _) 20 rfl (by kernel_rfl) rfl (fun M' L' w hM H => ldA tt49 rfl (H.ro (hM _ _ (hM57 _ _ (hM56 _ _ (hM55 _ _ (hM52 _ _ (hM48 _ _ (hM45 _ _ (hM1 _ _ gb14))))))))) rfl (by rfl) ⟨rfl, rfl⟩) ?_
    refine Ver.readY (v := .agg _) 22 rfl (by kernel_rfl) rfl (fun M' L' w hM H => ldA tt49 rfl (H.ro (hM _ _ (hM57 _ _ (hM56 _ _ (hM55 _ _ (hM52 _ _ (hM48 _ _ (hM45 _ _ hb15)))))))) rfl (by rfl) ⟨rfl, rfl⟩) ?_
    refine Ver.readY (v := .agg _) 23 rfl (by kernel_rfl) rfl (fun M' L' w hM H => ldA tt49 rfl (H.ro (hM _ _ (hM57 _ _ (hM56 _ _ (hM55 _ _ (hM52 _ _ (hM48 _ _ (hM45 _ _ hb16)))))))) rfl (by rfl) ⟨rfl, rfl⟩) ?_
    refine Ver.nextXY 18 (by kernel_rfl) rfl (by kernel_rfl) rfl ?_
    clear H; intro w H
    refine r_call cc18 (padd_spec (k := 2) (((((((gf.p.mono hM1).mono hM45).mono hM48).mono hM52).mono hM55).mono hM56).mono hM57) (((((((gg.p.mono hM1).mono hM45).mono hM48).mono hM52).mono hM55).mono hM56).mono hM57) lf lg (by first | omega | (dsimp only; omega))) H ?_
    clear H; rintro v63 M63 L63 w hM63 ⟨rfl, h63⟩ H
    refine ⟨_, _, hM63, H, ?_⟩
    refine Ver.nextXY 21 (by kernel_rfl) rfl (by kernel_rfl) rfl ?_
    clear H; intro w H
    refine r_call cc26 (eval_spec (k := 3) h63 ((((((((gx.mono hM1).mono hM45).mono hM48).mono hM52).mono hM55).mono hM56).mono hM57).mono hM63) ((((((((gy.mono hM1).mono hM45).mono hM48).mono hM52).mono hM55).mono hM56).mono hM57).mono hM63) (fun a b => (lf a b).add (lg a b)) lx ly (by first | omega | (dsimp only; omega))) H ?_
    clear H; rintro v66 M66 L66 w hM66 ⟨rfl, h66⟩ H
    refine ⟨_, _, hM66, H, ?_⟩
    refine Ver.nextXY 24 (by kernel_rfl) rfl (by kernel_rfl) rfl ?_
    clear H; intro w H
    refine r_call cc32 (addN (k := 8) ((((((((h40.mono hM45).mono hM48).mono hM52).mono hM55).mono hM56).mono hM57).mono hM63).mono hM66) ((((((((h44.mono hM45).mono hM48).mono hM52).mono hM55).mono hM56).mono hM57).mono hM63).mono hM66) luf luv (by first | omega | (dsimp only; omega))) H ?_
    clear H; rintro v69 M69 L69 w hM69 ⟨rfl, h69⟩ H
    refine ⟨_, _, hM69, H, ?_⟩
    refine Ver.nextXY 25 (by kernel_rfl) rfl (by kernel_rfl) rfl ?_
    clear H; intro w H
    refine r_call cc31 (equalT (h66.mono hM69) h69 (evalF_add f g x y)) H ?_
    clear H; rintro v70 M70 L70 w hM70 ⟨rfl, rfl, rfl⟩ H
    refine ⟨_, _, hM70, H, ?_⟩
    refine Ver.read (v := .bool _) 26 rfl (by kernel_rfl) (fun M' L' w hM H => r_pickB rfl rfl rfl ⟨rfl, rfl⟩) ?_
    refine Ver.read (v := .bool _) 27 rfl (by kernel_rfl) (fun M' L' w hM H => mvB rfl ⟨rfl, rfl⟩) ?_
    refine Ver.readY (v := .agg _) 28 rfl (by kernel_rfl) rfl (fun M' L' w hM H => ldA tt24 rfl (H.ro (hM _ _ (hM69 _ _ (hM66 _ _ (hM63 _ _ (hM57 _ _ (hM56 _ _ (hM55 _ _ (hM52 _ _ (hM48 _ _ (hM45 _ _ (hM1 _ _ hb9)))))))))))) rfl (by rfl) ⟨rfl, rfl⟩) ?_
    refine Ver.readY (v := .agg _) 29 rfl (by kernel_rfl) rfl (fun M' L' w hM H => ldA tt24 rfl (H.ro (hM _ _ (hM69 _ _ (hM66 _ _ (hM63 _ _ (hM57 _ _ (hM56 _ _ (hM55 _ _ (hM52 _ _ (hM48 _ _ (hM45 _ _ (hM1 _ _ gb11)))))))))))) rfl (by rfl) ⟨rfl, rfl⟩) ?_
    refine Ver.readY (v := .agg _) 31 rfl (by kernel_rfl) rfl (fun M' L' w hM H => ldA tt49 rfl (H.ro (hM _ _ (hM69 _ _ (hM66 _ _ (hM63 _ _ (hM57 _ _ (hM56 _ _ (hM55 _ _ (hM52 _ _ (hM48 _ _ (hM45 _ _ (hM1 _ _ gb13)))))))))))) rfl (by rfl) ⟨rfl, rfl⟩) ?_
    refine Ver.readY (v := .agg _) 32 rfl (by kernel_rfl) rfl (fun M' L' w hM H => ldA tt49 rfl (H.ro (hM _ _ (hM69 _ _ (hM66 _ _ (hM63 _ _ (hM57 _ _ (hM56 _ _ (hM55 _ _ (hM52 _ _ (hM48 _ _ (hM45 _ _ (hM1 _ _ gb14)))))))))))) rfl (by rfl) ⟨rfl, rfl⟩) ?_
    refine Ver.readY (v := .agg _) 34 rfl (by kernel_rfl) rfl (fun M' L' w hM H => ldA tt49 rfl (H.ro (hM _ _ (hM69 _ _ (hM66 _ _ (hM63 _ _ (hM57 _ _ (hM56 _ _ (hM55 _ _ (hM52 _ _ (hM48 _ _ (hM45 _ _ hb15))))))))))) rfl (by rfl) ⟨rfl, rfl⟩) ?_
    refine Ver.readY (v := .agg _) 35 rfl (by kernel_rfl) rfl (fun M' L' w hM H => ldA tt49 rfl (H.ro (hM _ _ (hM69 _ _ (hM66 _ _ (hM63 _ _ (hM57 _ _ (hM56 _ _ (hM55 _ _ (hM52 _ _ (hM48 _ _ (hM45 _ _ hb16))))))))))) rfl (by rfl) ⟨rfl, rfl⟩) ?_
    refine Ver.nextXY 30 (by kernel_rfl) rfl (by kernel_rfl) rfl ?_
    clear H; intro w H
    refine r_call cc20 (pmul_spec (k := 2) ((((((((((gf.p.mono hM1).mono hM45).mono hM48).mono hM52).mono hM55).mono hM56).mono hM57).mono hM63).mono hM66).mono hM69) ((((((((((gg.p.mono hM1).mono hM45).mono hM48).mono hM52).mono hM55).mono hM56).mono hM57).mono hM63).mono hM66).mono hM69) lf lg (by first | omega | (dsimp only; omega))) H ?_
    clear H; rintro v75 M75 L75 w hM75 ⟨rfl, h75⟩ H
    refine ⟨_, _, hM75, H, ?_⟩
    refine Ver.nextXY 33 (by kernel_rfl) rfl (by kernel_rfl) rfl ?_
    clear H; intro w H
    refine r_call cc26 (eval_spec (k := 6) h75 (((((((((((gx.mono hM1).mono hM45).mono hM48).mono hM52).mono hM55).mono hM56).mono hM57).mono hM63).mono hM66).mono hM69).mono hM75) (((((((((((gy.mono hM1).mono hM45).mono hM48).mono hM52).mono hM55).mono hM56).mono hM57).mono hM63).mono hM66).mono hM69).mono hM75) (fun a b => conv_lim (k := 2) (l := 2) lf lg a b) lx ly (by first | omega | (dsimp only; omega))) H ?_
    clear H; rintro v78 M78 L78 w hM78 ⟨rfl, h78⟩ H
    refine ⟨_, _, hM78, H, ?_⟩
    refine Ver.nextXY 36 (by kernel_rfl) rfl (by kernel_rfl) rfl ?_
    clear H; intro w H
    refine r_call cc33 (mulN (k := 8) (l := 8) (((((((((((h40.mono hM45).mono hM48).mono hM52).mono hM55).mono hM56).mono hM57).mono hM63).mono hM66).mono hM69).mono hM75).mono hM78) (((((((((((h44.mono hM45).mono hM48).mono hM52).mono hM55).mono hM56).mono hM57).mono hM63).mono hM66).mono hM69).mono hM75).mono hM78) luf luv (by first | omega | (dsimp only; omega)) (by first | omega | (dsimp only; omega))) H ?_
    clear H; rintro v81 M81 L81 w hM81 ⟨rfl, h81⟩ H
    refine ⟨_, _, hM81, H, ?_⟩
    refine Ver.nextXY 37 (by kernel_rfl) rfl (by kernel_rfl) rfl ?_
    clear H; intro w H
    refine r_call cc31 (equalT (h78.mono hM81) h81 (evalF_conv gf.ex gg.ex (by decide) x y)) H ?_
    clear H; rintro v82 M82 L82 w hM82 ⟨rfl, rfl, rfl⟩ H
    refine ⟨_, _, hM82, H, ?_⟩
    refine Ver.read (v := .bool _) 38 rfl (by kernel_rfl) (fun M' L' w hM H => r_pickB rfl rfl rfl ⟨rfl, rfl⟩) ?_
    refine Ver.read (v := .bool _) 39 rfl (by kernel_rfl) (fun M' L' w hM H => asB rfl ⟨rfl, rfl⟩) ?_
    refine Ver.finX (by kernel_rfl) ?_
    clear H; intro w H
    exact Goes.ret (ret1 (v := .bool _) rfl rfl rfl H.nil rfl)

end Go.Proofs.YtlcpdkckldlceaaGreatDoor
namespace Go.Proofs.YtlcpdkckldlceaaGreatDoor.eval
open Go.Sx Go.ChangeShapes Go.WideShapes Go.ChangeAt Go.RowKit
set_option maxRecDepth 100000

/-- WHAT THE WALK GIVES, FOR EVERY ARGUMENT AND EVERY WORLD. -/
theorem contract (H : Type) (enc : TypeId × Value → H) (W : World) (base : Nat) (args : Array Value) (ds gs : List (DataW H)) (before : List MemPlace)
    (hval : ∀ (j : Nat) t v, Tryz.f6.params[j]? = some t → args[j]? = some v → Value.okWide Tryz.prog W .any base t v)
    (hW : DataW.Whole enc Tryz.prog Tryz.f6.params.toList Rows.polynomialEvalSpec.vars false W args.toList ds gs before) (hL : laidMetH Tryz.prog Rows.polynomialEvalRow.laid W) (hsh : W.ShapedOpen Tryz.prog) :
    Calls Tryz.prog 6 args W fun e W' => ∃ v, e = .returned v ∧ Rows.polynomialEvalSpec.post enc Tryz.prog Tryz.f6 false true false false W args v W' := by
  have hW' := hW
  obtain ⟨p, q, hA, hV, rfl, hfz, hnd⟩ := hW
  rw [Tryz.params6] at hA hval
  have hA : DataW.TrodAll enc Tryz.prog W 0 (fun _ => true) true [36, 36, 46] args.toList ds p := hA
  obtain ⟨v0, vs0, d0, ds0, p0, q0, hargs, rfl, rfl, h0, r0⟩ := trodAll_cons hA
  obtain ⟨v1, vs1, d1, ds1, p1, q1, rfl, rfl, rfl, h1, r1⟩ := trodAll_cons r0
  obtain ⟨v2, vs2, d2, ds2, p2, q2, rfl, rfl, rfl, h2, r2⟩ := trodAll_cons r1
  obtain ⟨rfl, rfl, rfl⟩ := trodAll_nil r2
  obtain rfl : args = #[v0, v1, v2] := by cases args; simp_all
  obtain ⟨t0, a0⟩ := argT_of (hval 0 36 v0 rfl rfl) h0
  obtain ⟨t1, a1⟩ := argT_of (hval 1 36 v1 rfl rfl) h1
  obtain ⟨n2, m2, rfl, hn2⟩ := pairU_of (hval 2 46 v2 rfl rfl) h2
  have hT : TabM (ofW W) := tabM_of hL
  refine (Sp0.world (eval_law hT (maxM_of hsh) a0 a1 hn2)).mono fun e W' ⟨he, hS, hos, hout⟩ => ?_
  subst he
  exact ⟨_, rfl, post_true (L := [36, 70, 68, 45, 4, 51, 62, 3, 46, 9]) hS (by kernel_rfl) (by rw [Tryz.params6]; decide) hos hout hW' rfl (tb := 4) (by kernel_rfl) Tryz.underlying4 rfl⟩

theorem reads (os : Os) {H : Type} (enc : TypeId × Value → H) : ∃ places, DataW.whole enc Tryz.prog (startW os #[.slice none 0 0, .slice none 0 0, .agg #[.int .u16 0, .int .u16 0]]).memory Tryz.f6.params.toList Rows.polynomialEvalSpec.vars false #[Value.slice none 0 0, .slice none 0 0, .agg #[.int .u16 0, .int .u16 0]].toList 8 = some ([.nil, .nil, .agg [.lit (.int .u16 0), .lit (.int .u16 0)]], [], places) :=
  ⟨[], by kernel_rfl⟩

theorem lifted (os : Os) (started : os.Started) (H : Type) (enc : TypeId × Value → H) (F : Stop.Interp) :
    ReturnsInHanded {} Tryz.checked os 6 .any ((OpenSpec.ofChange Rows.polynomialEvalSpec).preRow enc Tryz.prog Tryz.f6 Rows.polynomialEvalRow.domain false Rows.polynomialEvalRow.laid) (((OpenSpec.ofChange Rows.polynomialEvalSpec).at F).post enc Tryz.prog Tryz.f6 false true false false) := by
  obtain ⟨places, hx⟩ := reads os enc
  refine returnsInHanded_of_row (C := Tryz.checked) (s := OpenSpec.ofChange Rows.polynomialEvalSpec) ownK started (by kernel_rfl) Tryz.func6
    (witness_row_at (enc := enc) (C := Tryz.checked) false (laidWorld os) #[.slice none 0 0, .slice none 0 0, .agg #[.int .u16 0, .int .u16 0]] rfl (by kernel_rfl) (by kernel_rfl) (by kernel_rfl)
      (OpenSpec.preRow_of_cond 8 hx (by kernel_rfl) (fun k hk => by cases hk) (by kernel_rfl) (laid_met os _))) ?_
  intro W base args ds gs before hval hW _ _ _ hL hsh _
  exact contract H enc W base args ds gs before hval hW hL hsh

theorem said : Rows.PolynomialEvalSaid :=
  OpenClaim.holds_of_cond 6 Tryz.f6 rfl rfl rfl rfl rfl rfl rfl ⟨rfl, rfl, rfl, rfl, rfl⟩ rfl rfl rfl rfl rfl (by kernel_rfl) Tryz.func6 (by kernel_rfl)
    (of_decide_eq_true (by kernel_rfl)) (by unfold Func.isWrapper; first | (rw [if_pos (by decide +kernel)]; kernel_rfl) | (rw [if_neg (by decide +kernel)]; exact ⟨rfl, rfl⟩))
    (fun os started H enc _ F => by rw [OpenClaim.pre_eq_preRow]; exact lifted os started H enc F)

/-- No parameter wants a stand-in; the program's own looks. -/
theorem plain (f : FuncId) (fn : Func) (hf : Tryz.pinned.checked.prog.funcNamed "palmette/palmettelaw40.PolynomialEval" = some f) (hfn : Tryz.pinned.checked.prog.funcs[f]? = some fn) :
    true = Tryz.pinned.checked.prog.looks [] ∧ ∀ (j : Nat) t, fn.params[j]? = some t → Tryz.pinned.checked.prog.wantsStandIn t = false := by
  obtain rfl : f = 6 := Option.some.inj ((show Tryz.prog.funcNamed "palmette/palmettelaw40.PolynomialEval" = some 6 by kernel_rfl).symm.trans hf) |>.symm
  obtain rfl : fn = Tryz.f6 := (Option.some.inj (Tryz.func6.symm.trans hfn)).symm
  refine ⟨by kernel_rfl, fun j t ht => ?_⟩
  have hall : (#[36, 36, 46] : Array TypeId).all (fun t => Tryz.prog.wantsStandIn t == false) = true := by kernel_rfl
  rw [Tryz.params6] at ht
  have := Array.all_eq_true_iff_forall_mem.1 hall t (Array.mem_of_getElem? ht)
  exact (show Tryz.prog.wantsStandIn t = false by simpa using this)

/-- THE CARD. -/
theorem card : Rows.PolynomialEvalCardSaid :=
  Claim7.holds_tied_plain_at .later [] _ _ _ _ said (fun _ h => by cases h) (by kernel_rfl) (fun _ h => by cases h) polynomialEval_row_tie rfl ⟨rfl, rfl⟩ (by kernel_rfl) rfl plain (by kernel_rfl)
end Go.Proofs.YtlcpdkckldlceaaGreatDoor.eval
