/-
  The statement PolynomialTerms holds for every input, the listed library variables holding what their initialisers lay: it returns true and leaves its arguments as they were.
-/
import Derived.Test.YtlcpdkckldlceaaGreatDoorFL
import Derived.Test.YtlcpdkckldlceaaGreatDoorFM
import Derived.ChangeMaps5
import Derived.Test.YtlcpdkckldlceaaGreatDoorRows
import Derived.SevenTiedAt
import Derived.JoinedCond
namespace Go.Proofs.YtlcpdkckldlceaaGreatDoor
open Go.Sx Go.Nat32 Go.Dec Go.PolyL Go.Lib Go.Proofs
attribute [local irreducible] pt sl itc itm
set_option maxRecDepth 100000
set_option linter.unusedVariables false
set_option linter.unusedSimpArgs false
set_option maxHeartbeats 1000000

theorem conv_lt {f g : Nat → Nat → Nat} {k : Nat} (hf : ∀ a b, f a b < 10 ^ k) (hg : ∀ a b, g a b < 10 ^ k) (a b : Nat) : conv f g a b < 10 ^ (2 * k + 14) := by
  have h1 := conv_le (f := f) (g := g) (c := 10 ^ k * 10 ^ k) (fun a b d e => Nat.mul_le_mul (Nat.le_of_lt (hf a b)) (Nat.le_of_lt (hg d e))) a b
  have h2 : (10 : Nat) ^ (2 * k + 14) = 10 ^ k * 10 ^ k * 100000000000000 := by
    rw [Nat.pow_add, Nat.two_mul, Nat.pow_add]
  have h3 : 0 < 10 ^ k * 10 ^ k := Nat.mul_pos (Nat.pow_pos (by decide)) (Nat.pow_pos (by decide))
  rw [h2]
  generalize 10 ^ k * 10 ^ k = z at *
  omega
theorem conv_lim {f g : Nat → Nat → Nat} {k l : Nat} (hf : ∀ a b, lim k (f a b)) (hg : ∀ a b, lim l (g a b)) (a b : Nat) : lim (k + l + 2) (conv f g a b) := by
  have h1 := conv_le (f := f) (g := g) (c := 4294967296 ^ k * 4294967296 ^ l) (fun a b d e => Nat.mul_le_mul (Nat.le_of_lt (hf a b)) (Nat.le_of_lt (hg d e))) a b
  unfold lim
  have h2 : (4294967296 : Nat) ^ (k + l + 2) = 4294967296 ^ k * 4294967296 ^ l * 18446744073709551616 := by
    rw [Nat.pow_add, Nat.pow_add]
  have h3 : 0 < 4294967296 ^ k * 4294967296 ^ l := Nat.mul_pos (Nat.pow_pos (by decide)) (Nat.pow_pos (by decide))
  rw [h2]
  generalize 4294967296 ^ k * 4294967296 ^ l = z at *
  omega

theorem Made.shapes {M : RO} {v u : Value} {f : Nat → Nat → Nat} {most m : Nat} (h : Made M v u f most m) : ∃ q a n c, v = .agg #[.map q] ∧ u = .slice a n c := by
  obtain ⟨q, hq⟩ := h.p.shape
  obtain ⟨a, n, c, hu⟩ := h.r.shape
  exact ⟨q, a, n, c, hq, hu⟩

theorem sumProduct_law {M : RO} (hT : TabM M) (hm : MaxM M) {va vb : Value} {ta tb : List (Nat × Nat × Nat)} {small : Bool} (ha : ArgT M va ta) (hb : ArgT M vb tb) :
    Sp0 Tryz.prog 4 [va, vb, .bool small] M [] fun r _ _ => r = .bool true := by
  have ha' := ha
  have hb' := hb
  obtain ⟨aa, ac, rfl, _⟩ := ha.shape
  obtain ⟨ba, bc, rfl, _⟩ := hb.shape
  refine Sp0.enter (n := 54) Tryz.func4 rfl Tryz.ntmps4 rfl ?_
  intro E hdr hE H
  subst hE
  refine Goes.seq (Goes.region ?_)
  refine GoL.stepS rfl rfl (asB rfl ?_)
  refine GoL.nil ?_
  refine Goes.seq (Goes.region ?_)
  refine GoL.stepS rfl rfl (asI rfl ?_)
  refine GoL.nil ?_
  refine Goes.seq (Goes.seq (Goes.region ?_))
  refine GoL.stepS rfl rfl (mvB rfl ?_)
  refine GoL.nil ?_
  refine Goes.cutT [7] [(7, .int .i64 2048)] (fun (most : Nat) => [(7, .int .i64 (most : Int))]) (fun most w => most ≤ 2048 ∧ Hp E E.M [] w) ⟨rfl, trivial⟩ ?aft ?cut
  case cut =>
    intro f0 meet
    refine Goes.cond rfl (fun hs => ?_) (fun hs => ?_)
    · refine Goes.region ?_
      refine GoL.stepS rfl rfl (asI rfl ?_)
      refine GoL.nil ?_
      exact meet 3 _ _ ⟨rfl, trivial⟩ (.of_strip (by kernel_rfl)) ⟨by decide, H⟩
    · refine Goes.skip ?_
      exact meet 2048 _ _ ⟨rfl, trivial⟩ (.of_strip (by kernel_rfl)) ⟨Nat.le_refl _, H⟩
  case aft =>
    clear H
    rintro most f1 w ⟨hmost, H⟩
    refine Goes.seq (Goes.region ?_)
    refine GoL.stepS rfl rfl (mvL rfl ?_)
    refine GoL.stepS rfl rfl (mvI rfl ?_)
    refine GoL.stepS rfl rfl (r_call cc17 (made40_spec ha' hmost) H ?_); clear H; rintro v16 M16 L16 w hM16 ⟨rfl, p16, u16, f, rfl, hf⟩ H
    obtain ⟨q16, a16, n16, c16, rfl, rfl⟩ := hf.shapes
    refine GoL.stepS rfl rfl (mvT rfl ?_)
    refine GoL.stepS rfl rfl (r_extract rfl rfl ?_)
    refine GoL.stepS rfl rfl (r_extract rfl rfl ?_)
    refine GoL.stepS rfl rfl (r_alloc tt24 H ?_); clear H; intro b8 w hb8 H
    refine GoL.step0 rfl (stA tt24 rfl rfl H (by repeat constructor) rfl rfl (by rfl) ?_); clear H; intro w H
    refine GoL.stepS rfl rfl (asL rfl ?_)
    refine GoL.nil ?_
    refine Goes.seq (Goes.region ?_)
    refine GoL.stepS rfl rfl (mvL rfl ?_)
    refine GoL.stepS rfl rfl (mvI rfl ?_)
    refine GoL.stepS rfl rfl (r_call cc17 (made40_spec (hb'.mono hM16) hmost) H ?_); clear H; rintro v22 M22 L22 w hM22 ⟨rfl, p22, u22, g, rfl, hg⟩ H
    obtain ⟨q22, a22, n22, c22, rfl, rfl⟩ := hg.shapes
    have hf := hf.mono hM22
    have hfg : ∀ a b, f a b + g a b < 10 ^ 12 := fun a b => by
      have h1 := hf.lt a b
      have h2 := hg.lt a b
      have h3 : (10 : Nat) ^ 11 = 100000000000 := rfl
      have h4 : (10 : Nat) ^ 12 = 1000000000000 := rfl
      rw [h3] at h1 h2; rw [h4]; omega
    have gT : TabM M22 := (hT.mono hM16).mono hM22
    have gle : ∀ {A B C D F G J : RO}, A.le B → B.le C → C.le D → D.le F → F.le G → G.le J → A.le J := fun h1 h2 h3 h4 h5 h6 b o h => h6 _ _ (h5 _ _ (h4 _ _ (h3 _ _ (h2 _ _ (h1 _ _ h)))))
    refine GoL.stepS rfl rfl (mvT rfl ?_)
    refine GoL.stepS rfl rfl (r_extract rfl rfl ?_)
    refine GoL.stepS rfl rfl (r_extract rfl rfl ?_)
    refine GoL.stepS rfl rfl (r_alloc tt24 H ?_); clear H; intro b10 w hb10 H
    refine GoL.step0 rfl (stA tt24 rfl rfl H (by repeat constructor) rfl rfl (by rfl) ?_); clear H; intro w H
    refine GoL.stepS rfl rfl (asL rfl ?_)
    refine GoL.nil ?_
    refine Goes.seq (Goes.region ?_)
    refine GoL.stepS rfl rfl (r_call0 hdr cc14 (known_spec ((hT.mono hM16).mono hM22) ((hm.mono hM16).mono hM22)) H ?_); clear H; rintro v25 M25 L25 w hM25 ⟨rfl, rfl⟩ H
    refine GoL.stepS rfl rfl (mvB rfl ?_)
    refine GoL.stepYS rfl rfl rfl (ldA tt24 rfl (H.own (by repeat constructor)) rfl (by rfl) ?_)
    refine GoL.stepYS rfl rfl rfl (ldA tt24 rfl (H.own (by repeat constructor)) rfl (by rfl) ?_)
    refine GoL.stepYS rfl rfl rfl (r_call cc18 (padd_spec (hf.p.mono hM25) (hg.p.mono hM25) hf.lim hg.lim (by first | omega | (dsimp only; omega))) H ?_); clear H; rintro v29 M29 L29 w hM29 ⟨rfl, h29⟩ H
    refine GoL.stepYS rfl rfl rfl (mvL rfl ?_)
    refine GoL.stepYS rfl rfl rfl (mvL rfl ?_)
    refine GoL.stepYS rfl rfl rfl (r_call cc19 (radd40_spec (((hf.r.mono hM25)).mono hM29) ((hg.r.mono hM25).mono hM29) (k := 12) (by first | omega | (dsimp only; omega)) hfg (by first | omega | (dsimp only; omega))) H ?_); clear H; rintro v32 M32 L32 w hM32 ⟨rfl, h32⟩ H
    refine GoL.stepYS rfl rfl rfl (r_call0 hdr cc15 (alike_spec (((gT.mono hM25).mono hM29).mono hM32) (h29.mono hM32) h32 (k := 12) (by first | omega | (dsimp only; omega)) hfg (by first | omega | (dsimp only; omega))) H ?_); clear H; rintro v33 M33 L33 w hM33 ⟨rfl, rfl⟩ H
    refine GoL.stepS rfl rfl (r_pickB rfl rfl rfl ?_)
    refine GoL.stepS rfl rfl (mvB rfl ?_)
    refine GoL.stepYS rfl rfl rfl (ldA tt24 rfl (H.own (by repeat constructor)) rfl (by rfl) ?_)
    refine GoL.stepYS rfl rfl rfl (ldA tt24 rfl (H.own (by repeat constructor)) rfl (by rfl) ?_)
    refine GoL.stepYS rfl rfl rfl (r_call cc20 (pmul_spec (((((hf.p.mono hM25).mono hM29).mono hM32)).mono hM33) ((((hg.p.mono hM25).mono hM29).mono hM32).mono hM33) hf.lim hg.lim (by first | omega | (dsimp only; omega))) H ?_); clear H; rintro v38 M38 L38 w hM38 ⟨rfl, h38⟩ H
    refine GoL.stepYS rfl rfl rfl (mvL rfl ?_)
    refine GoL.stepYS rfl rfl rfl (mvL rfl ?_)
    refine GoL.stepYS rfl rfl rfl (r_call cc21 (rmul40_spec (((((hf.r.mono hM25).mono hM29).mono hM32).mono hM33).mono hM38) (((((hg.r.mono hM25).mono hM29).mono hM32).mono hM33).mono hM38) (k := 11) (by first | omega | (dsimp only; omega)) hf.lt hg.lt (by first | omega | (dsimp only; omega)) (by first | omega | (dsimp only; omega))) H ?_); clear H; rintro v41 M41 L41 w hM41 ⟨rfl, h41⟩ H
    refine GoL.stepYS rfl rfl rfl (r_call0 hdr cc15 (alike_spec ((((((gT.mono hM25).mono hM29).mono hM32).mono hM33).mono hM38).mono hM41) (h38.mono hM41) h41 (k := 36) (by first | omega | (dsimp only; omega)) (conv_lt (k := 11) hf.lt hg.lt) (by first | omega | (dsimp only; omega))) H ?_); clear H; rintro v42 M42 L42 w hM42 ⟨rfl, rfl⟩ H
    refine GoL.stepS rfl rfl (r_pickB rfl rfl rfl ?_)
    refine GoL.stepS rfl rfl (mvB rfl ?_)
    refine GoL.stepYS rfl rfl rfl (ldA tt24 rfl (H.own (by repeat constructor)) rfl (by rfl) ?_)
    refine GoL.stepYS rfl rfl rfl (mvL rfl ?_)
    refine GoL.stepYS rfl rfl rfl (r_call0 hdr cc15 (alike_spec ((gT.mono (gle hM25 hM29 hM32 hM33 hM38 hM41)).mono hM42) ((hf.p.mono (gle hM25 hM29 hM32 hM33 hM38 hM41)).mono hM42) ((hf.r.mono (gle hM25 hM29 hM32 hM33 hM38 hM41)).mono hM42) (k := 11) (by first | omega | (dsimp only; omega)) hf.lt (by first | omega | (dsimp only; omega))) H ?_); clear H; rintro v47 M47 L47 w hM47 ⟨rfl, rfl⟩ H
    refine GoL.stepS rfl rfl (r_pickB rfl rfl rfl ?_)
    refine GoL.stepS rfl rfl (mvB rfl ?_)
    refine GoL.stepYS rfl rfl rfl (ldA tt24 rfl (H.own (by repeat constructor)) rfl (by rfl) ?_)
    refine GoL.stepYS rfl rfl rfl (mvL rfl ?_)
    refine GoL.stepYS rfl rfl rfl (r_call0 hdr cc15 (alike_spec (((gT.mono (gle hM25 hM29 hM32 hM33 hM38 hM41)).mono hM42).mono hM47) (((hg.p.mono (gle hM25 hM29 hM32 hM33 hM38 hM41)).mono hM42).mono hM47) (((hg.r.mono (gle hM25 hM29 hM32 hM33 hM38 hM41)).mono hM42).mono hM47) (k := 11) (by first | omega | (dsimp only; omega)) hg.lt (by first | omega | (dsimp only; omega))) H ?_); clear H; rintro v52 M52 L52 w hM52 ⟨rfl, rfl⟩ H
    refine GoL.stepS rfl rfl (r_pickB rfl rfl rfl ?_)
    refine GoL.stepS rfl rfl (asB rfl ?_)
    refine GoL.nil ?_
    exact Goes.ret (ret1 (v := .bool _) rfl rfl rfl H.nil rfl)

end Go.Proofs.YtlcpdkckldlceaaGreatDoor
namespace Go.Proofs.YtlcpdkckldlceaaGreatDoor
open Go.Sx Go.Nat32 Go.Dec Go.PolyL Go.Lib Go.Proofs
attribute [local irreducible] pt sl itc itm
set_option maxRecDepth 100000
set_option linter.unusedVariables false
set_option linter.unusedSimpArgs false
set_option maxHeartbeats 1000000

theorem conv_one' {f : Nat → Nat → Nat} (hf : Boxed f) : conv f (monoF 1 0 0) = f :=
  conv_one f hf _ (by rw [monoF_at]; rfl) (fun a b h => by rw [monoF_at, if_neg (fun e => h (by injection e with e1 e2; exact ⟨e1, e2⟩))])

theorem semiring_law {M : RO} (hT : TabM M) (hm : MaxM M) {va vb vc : Value} {ta tb tc : List (Nat × Nat × Nat)} (ha : ArgT M va ta) (hb : ArgT M vb tb) (hc : ArgT M vc tc) :
    Sp0 Tryz.prog 5 [va, vb, vc] M [] fun r _ _ => r = .bool true := by
  have ha' := ha
  have hb' := hb
  have hc' := hc
  obtain ⟨aa, ac, rfl, _⟩ := ha.shape
  obtain ⟨ba, bc, rfl, _⟩ := hb.shape
  obtain ⟨ca, cc, rfl, _⟩ := hc.shape
  refine Sp0.enter (n := 113) Tryz.func5 rfl Tryz.ntmps5 rfl ?_
  intro E hdr hE H
  subst hE
  refine Goes.seq (Goes.region ?_)
  refine GoL.stepS rfl rfl (asB rfl ?_)
  refine GoL.nil ?_
  refine Goes.seq (Goes.region ?_)
  refine GoL.stepS rfl rfl (mvL rfl ?_)
  refine GoL.stepS rfl rfl (r_call cc17 (made40_spec (most := 2048) ha' (Nat.le_refl _)) H ?_); clear H; rintro v17 M17 L17 w hM17 ⟨rfl, p17, u17, f, rfl, hf⟩ H
  refine GoL.stepS rfl rfl (mvT rfl ?_)
  obtain ⟨q17, a17, n17, c17, rfl, rfl⟩ := hf.shapes
  refine GoL.stepS rfl rfl (r_extract rfl rfl ?_)
  refine GoL.stepS rfl rfl (r_extract rfl rfl ?_)
  refine GoL.stepS rfl rfl (r_alloc tt24 H ?_); clear H; intro b7 w hb7 H
  refine GoL.step0 rfl (stA tt24 rfl rfl H (by repeat constructor) rfl rfl (by rfl) ?_); clear H; intro w H
  refine GoL.stepS rfl rfl (asL rfl ?_)
  refine GoL.nil ?_
  refine Goes.seq (Goes.region ?_)
  refine GoL.stepS rfl rfl (mvL rfl ?_)
  refine GoL.stepS rfl rfl (r_call cc17 (made40_spec (most := 2048) (hb'.mono hM17) (Nat.le_refl _)) H ?_); clear H; rintro v22 M22 L22 w hM22 ⟨rfl, p22, u22, g, rfl, hg⟩ H
  refine GoL.stepS rfl rfl (mvT rfl ?_)
  obtain ⟨q22, a22, n22, c22, rfl, rfl⟩ := hg.shapes
  refine GoL.stepS rfl rfl (r_extract rfl rfl ?_)
  refine GoL.stepS rfl rfl (r_extract rfl rfl ?_)
  refine GoL.stepS rfl rfl (r_alloc tt24 H ?_); clear H; intro b9 w hb9 H
  refine GoL.step0 rfl (stA tt24 rfl rfl H (by repeat constructor) rfl rfl (by rfl) ?_); clear H; intro w H
  refine GoL.stepS rfl rfl (asL rfl ?_)
  refine GoL.nil ?_
  refine Goes.seq (Goes.region ?_)
  refine GoL.stepS rfl rfl (mvL rfl ?_)
  refine GoL.stepS rfl rfl (r_call cc17 (made40_spec (most := 2048) ((hc'.mono hM17).mono hM22) (Nat.le_refl _)) H ?_); clear H; rintro v27 M27 L27 w hM27 ⟨rfl, p27, u27, h, rfl, hh⟩ H
  refine GoL.stepS rfl rfl (mvT rfl ?_)
  obtain ⟨q27, a27, n27, c27, rfl, rfl⟩ := hh.shapes
  refine GoL.stepS rfl rfl (r_extract rfl rfl ?_)
  refine GoL.stepS rfl rfl (r_extract rfl rfl ?_)
  refine GoL.stepS rfl rfl (r_alloc tt24 H ?_); clear H; intro b11 w hb11 H
  refine GoL.step0 rfl (stA tt24 rfl rfl H (by repeat constructor) rfl rfl (by rfl) ?_); clear H; intro w H
  refine GoL.stepS rfl rfl (asL rfl ?_)
  refine GoL.nil ?_
  refine Goes.seq (Goes.region ?_)
  refine GoL.stepS rfl rfl (r_call cc22 (zero_spec) H ?_); clear H; rintro v30 M30 L30 w hM30 ⟨rfl, rfl, rfl⟩ H
  refine GoL.stepS rfl rfl (r_call cc23 (one_spec) H ?_); clear H; rintro v31 M31 L31 w hM31 ⟨rfl, h31⟩ H
  obtain ⟨q31, rfl⟩ := h31.shape
  refine GoL.stepS rfl rfl (r_alloc tt24 H ?_); clear H; intro b13 w hb13 H
  refine GoL.stepS rfl rfl (r_alloc tt24 H ?_); clear H; intro b14 w hb14 H
  refine GoL.step0 rfl (stA tt24 rfl rfl H (by repeat constructor) rfl rfl (by rfl) ?_); clear H; intro w H
  refine GoL.step0 rfl (stA tt24 rfl rfl H (by repeat constructor) rfl rfl (by rfl) ?_); clear H; intro w H
  refine GoL.nil ?_
  refine Goes.seq ?_
  obtain ⟨K14, hb14, hle14, H⟩ := H.freezeX (i := 0) .head
  obtain ⟨K13, hb13, hle13, H⟩ := H.freezeX (i := 0) .head
  obtain ⟨K11, hb11, hle11, H⟩ := H.freezeX (i := 0) .head
  obtain ⟨K9, hb9, hle9, H⟩ := H.freezeX (i := 0) .head
  obtain ⟨K7, hb7, hle7, H⟩ := H.freezeX (i := 0) .head
  have lf := hf.lim
  have lg := hg.lim
  have lh := hh.lim
  refine Goes.regionDX mixed (by kernel_rfl) 83 H ?_
  refine Ver.nextX 0 (by kernel_rfl) rfl (by kernel_rfl) ?_
  clear H; intro w H
  refine r_call0 hdr cc14 (known_spec (((((((((hT.mono hM17).mono hM22).mono hM27).mono hM31).mono hle14).mono hle13).mono hle11).mono hle9).mono hle7) (((((((((hm.mono hM17).mono hM22).mono hM27).mono hM31).mono hle14).mono hle13).mono hle11).mono hle9).mono hle7)) H ?_
  clear H; rintro v32 M32 L32 w hM32 ⟨rfl, rfl⟩ H
  refine ⟨_, _, hM32, H, ?_⟩
  refine Ver.read (v := .bool _) 1 rfl (by kernel_rfl) (fun M' L' w hM H => mvB rfl ⟨rfl, rfl⟩) ?_
  refine Ver.readY (v := .agg _) 2 rfl (by kernel_rfl) rfl (fun M' L' w hM H => ldA tt24 rfl (H.ro (hM _ _ (hM32 _ _ hb7))) rfl (by rfl) ⟨rfl, rfl⟩) ?_
  refine Ver.readY (v := .agg _) 3 rfl (by kernel_rfl) rfl (fun M' L' w hM H => ldA tt24 rfl (H.ro (hM _ _ (hM32 _ _ (hle7 _ _ hb9)))) rfl (by rfl) ⟨rfl, rfl⟩) ?_
  refine Ver.readY (v := .agg _) 5 rfl (by kernel_rfl) rfl (fun M' L' w hM H => ldA tt24 rfl (H.ro (hM _ _ (hM32 _ _ (hle7 _ _ hb9)))) rfl (by rfl) ⟨rfl, rfl⟩) ?_
  refine Ver.readY (v := .agg _) 6 rfl (by kernel_rfl) rfl (fun M' L' w hM H => ldA tt24 rfl (H.ro (hM _ _ (hM32 _ _ hb7))) rfl (by rfl) ⟨rfl, rfl⟩) ?_
  refine Ver.nextXY 4 (by kernel_rfl) rfl (by kernel_rfl) rfl ?_
  clear H; intro w H
  refine r_call cc18 (padd_spec (k := 2) ((((((((((hf.p.mono hM22).mono hM27).mono hM31).mono hle14).mono hle13).mono hle11).mono hle9).mono hle7).mono hM32)) (((((((((hg.p.mono hM27).mono hM31).mono hle14).mono hle13).mono hle11).mono hle9).mono hle7).mono hM32)) lf lg (by first | omega | (dsimp only; omega))) H ?_
  clear H; rintro v36 M36 L36 w hM36 ⟨rfl, h36⟩ H
  refine ⟨_, _, hM36, H, ?_⟩
  refine Ver.nextXY 7 (by kernel_rfl) rfl (by kernel_rfl) rfl ?_
  clear H; intro w H
  refine r_call cc18 (padd_spec (k := 2) ((((((((((hg.p.mono hM27).mono hM31).mono hle14).mono hle13).mono hle11).mono hle9).mono hle7).mono hM32).mono hM36)) (((((((((((hf.p.mono hM22).mono hM27).mono hM31).mono hle14).mono hle13).mono hle11).mono hle9).mono hle7).mono hM32).mono hM36)) lg lf (by first | omega | (dsimp only; omega))) H ?_
  clear H; rintro v39 M39 L39 w hM39 ⟨rfl, h39⟩ H
  refine ⟨_, _, hM39, H, ?_⟩
  refine Ver.nextXY 8 (by kernel_rfl) rfl (by kernel_rfl) rfl ?_
  clear H; intro w H
  refine r_call cc24 (pequalT ((h36.mono hM39)) (h39) (by funext a b; exact Nat.add_comm _ _)) H ?_
  clear H; rintro v40 M40 L40 w hM40 ⟨rfl, rfl, rfl⟩ H
  refine ⟨_, _, hM40, H, ?_⟩
  refine Ver.read (v := .bool _) 9 rfl (by kernel_rfl) (fun M' L' w hM H => r_pickB rfl rfl rfl ⟨rfl, rfl⟩) ?_
  refine Ver.read (v := .bool _) 10 rfl (by kernel_rfl) (fun M' L' w hM H => mvB rfl ⟨rfl, rfl⟩) ?_
  refine Ver.readY (v := .agg _) 11 rfl (by kernel_rfl) rfl (fun M' L' w hM H => ldA tt24 rfl (H.ro (hM _ _ (hM39 _ _ (hM36 _ _ (hM32 _ _ hb7))))) rfl (by rfl) ⟨rfl, rfl⟩) ?_
  refine Ver.readY (v := .agg _) 12 rfl (by kernel_rfl) rfl (fun M' L' w hM H => ldA tt24 rfl (H.ro (hM _ _ (hM39 _ _ (hM36 _ _ (hM32 _ _ (hle7 _ _ hb9)))))) rfl (by rfl) ⟨rfl, rfl⟩) ?_
  refine Ver.readY (v := .agg _) 14 rfl (by kernel_rfl) rfl (fun M' L' w hM H => ldA tt24 rfl (H.ro (hM _ _ (hM39 _ _ (hM36 _ _ (hM32 _ _ (hle7 _ _ hb9)))))) rfl (by rfl) ⟨rfl, rfl⟩) ?_
  refine Ver.readY (v := .agg _) 15 rfl (by kernel_rfl) rfl (fun M' L' w hM H => ldA tt24 rfl (H.ro (hM _ _ (hM39 _ _ (hM36 _ _ (hM32 _ _ hb7))))) rfl (by rfl) ⟨rfl, rfl⟩) ?_
  refine Ver.nextXY 13 (by kernel_rfl) rfl (by kernel_rfl) rfl ?_
  clear H; intro w H
  refine r_call cc20 (pmul_spec (k := 2) ((((((((((((hf.p.mono hM22).mono hM27).mono hM31).mono hle14).mono hle13).mono hle11).mono hle9).mono hle7).mono hM32).mono hM36).mono hM39)) (((((((((((hg.p.mono hM27).mono hM31).mono hle14).mono hle13).mono hle11).mono hle9).mono hle7).mono hM32).mono hM36).mono hM39)) lf lg (by first | omega | (dsimp only; omega))) H ?_
  clear H; rintro v45 M45 L45 w hM45 ⟨rfl, h45⟩ H
  refine ⟨_, _, hM45, H, ?_⟩
  refine Ver.nextXY 16 (by kernel_rfl) rfl (by kernel_rfl) rfl ?_
  clear H; intro w H
  refine r_call cc20 (pmul_spec (k := 2) ((((((((((((hg.p.mono hM27).mono hM31).mono hle14).mono hle13).mono hle11).mono hle9).mono hle7).mono hM32).mono hM36).mono hM39).mono hM45)) (((((((((((((hf.p.mono hM22).mono hM27).mono hM31).mono hle14).mono hle13).mono hle11).mono hle9).mono hle7).mono hM32).mono hM36).mono hM39).mono hM45)) lg lf (by first | omega | (dsimp only; omega))) H ?_
  clear H; rintro v48 M48 L48 w hM48 ⟨rfl, h48⟩ H
  refine ⟨_, _, hM48, H, ?_⟩
  refine Ver.nextXY 17 (by kernel_rfl) rfl (by kernel_rfl) rfl ?_
  clear H; intro w H
  refine r_call cc24 (pequalT ((h45.mono hM48)) (h48) (conv_comm f g)) H ?_
  clear H; rintro v49 M49 L49 w hM49 ⟨rfl, rfl, rfl⟩ H
  refine ⟨_, _, hM49, H, ?_⟩
  refine Ver.read (v := .bool _) 18 rfl (by kernel_rfl) (fun M' L' w hM H => r_pickB rfl rfl rfl ⟨rfl, rfl⟩) ?_
  refine Ver.read (v := .bool _) 19 rfl (by kernel_rfl) (fun M' L' w hM H => mvB rfl ⟨rfl, rfl⟩) ?_
  refine Ver.readY (v := .agg _) 20 rfl (by kernel_rfl) rfl (fun M' L' w hM H => ldA tt24 rfl (H.ro (hM _ _ (hM48 _ _ (hM45 _ _ (hM39 _ _ (hM36 _ _ (hM32 _ _ hb7))))))) rfl (by rfl) ⟨rfl, rfl⟩) ?_
  refine Ver.readY (v := .agg _) 21 rfl (by kernel_rfl) rfl (fun M' L' w hM H => ldA tt24 rfl (H.ro (hM _ _ (hM48 _ _ (hM45 _ _ (hM39 _ _ (hM36 _ _ (hM32 _ _ (hle7 _ _ hb9)))))))) rfl (by rfl) ⟨rfl, rfl⟩) ?_
  refine Ver.readY (v := .agg _) 23 rfl (by kernel_rfl) rfl (fun M' L' w hM H => ldA tt24 rfl (H.ro (hM _ _ (hM48 _ _ (hM45 _ _ (hM39 _ _ (hM36 _ _ (hM32 _ _ (hle7 _ _ (hle9 _ _ hb11))))))))) rfl (by rfl) ⟨rfl, rfl⟩) ?_
  refine Ver.readY (v := .agg _) 25 rfl (by kernel_rfl) rfl (fun M' L' w hM H => ldA tt24 rfl (H.ro (hM _ _ (hM48 _ _ (hM45 _ _ (hM39 _ _ (hM36 _ _ (hM32 _ _ hb7))))))) rfl (by rfl) ⟨rfl, rfl⟩) ?_
  refine Ver.readY (v := .agg _) 26 rfl (by kernel_rfl) rfl (fun M' L' w hM H => ldA tt24 rfl (H.ro (hM _ _ (hM48 _ _ (hM45 _ _ (hM39 _ _ (hM36 _ _ (hM32 _ _ (hle7 _ _ hb9)))))))) rfl (by rfl) ⟨rfl, rfl⟩) ?_
  refine Ver.readY (v := .agg _) 27 rfl (by kernel_rfl) rfl (fun M' L' w hM H => ldA tt24 rfl (H.ro (hM _ _ (hM48 _ _ (hM45 _ _ (hM39 _ _ (hM36 _ _ (hM32 _ _ (hle7 _ _ (hle9 _ _ hb11))))))))) rfl (by rfl) ⟨rfl, rfl⟩) ?_
  refine Ver.nextXY 22 (by kernel_rfl) rfl (by kernel_rfl) rfl ?_
  clear H; intro w H
  refine r_call cc18 (padd_spec (k := 2) ((((((((((((((hf.p.mono hM22).mono hM27).mono hM31).mono hle14).mono hle13).mono hle11).mono hle9).mono hle7).mono hM32).mono hM36).mono hM39).mono hM45).mono hM48)) (((((((((((((hg.p.mono hM27).mono hM31).mono hle14).mono hle13).mono hle11).mono hle9).mono hle7).mono hM32).mono hM36).mono hM39).mono hM45).mono hM48)) lf lg (by first | omega | (dsimp only; omega))) H ?_
  clear H; rintro v54 M54 L54 w hM54 ⟨rfl, h54⟩ H
  refine ⟨_, _, hM54, H, ?_⟩
  refine Ver.nextXY 24 (by kernel_rfl) rfl (by kernel_rfl) rfl ?_
  clear H; intro w H
  refine r_call cc18 (padd_spec (k := 3) (h54) (((((((((((((hh.p.mono hM31).mono hle14).mono hle13).mono hle11).mono hle9).mono hle7).mono hM32).mono hM36).mono hM39).mono hM45).mono hM48).mono hM54)) (fun a b => (lf a b).add (lg a b)) (fun a b => (lh a b).mono (k' := 3) (by first | omega | (dsimp only; omega))) (by first | omega | (dsimp only; omega))) H ?_
  clear H; rintro v56 M56 L56 w hM56 ⟨rfl, h56⟩ H
  refine ⟨_, _, hM56, H, ?_⟩
  refine Ver.nextXY 28 (by kernel_rfl) rfl (by kernel_rfl) rfl ?_
  clear H; intro w H
  refine r_call cc18 (padd_spec (k := 2) (((((((((((((((hg.p.mono hM27).mono hM31).mono hle14).mono hle13).mono hle11).mono hle9).mono hle7).mono hM32).mono hM36).mono hM39).mono hM45).mono hM48).mono hM54).mono hM56)) ((((((((((((((hh.p.mono hM31).mono hle14).mono hle13).mono hle11).mono hle9).mono hle7).mono hM32).mono hM36).mono hM39).mono hM45).mono hM48).mono hM54).mono hM56)) lg lh (by first | omega | (dsimp only; omega))) H ?_
  clear H; rintro v60 M60 L60 w hM60 ⟨rfl, h60⟩ H
  refine ⟨_, _, hM60, H, ?_⟩
  refine Ver.nextXY 29 (by kernel_rfl) rfl (by kernel_rfl) rfl ?_
  clear H; intro w H
  refine r_call cc18 (padd_spec (k := 3) (((((((((((((((((hf.p.mono hM22).mono hM27).mono hM31).mono hle14).mono hle13).mono hle11).mono hle9).mono hle7).mono hM32).mono hM36).mono hM39).mono hM45).mono hM48).mono hM54).mono hM56).mono hM60)) (h60) (fun a b => (lf a b).mono (k' := 3) (by first | omega | (dsimp only; omega))) (fun a b => (lg a b).add (lh a b)) (by first | omega | (dsimp only; omega))) H ?_
  clear H; rintro v61 M61 L61 w hM61 ⟨rfl, h61⟩ H
  refine ⟨_, _, hM61, H, ?_⟩
  refine Ver.nextXY 30 (by kernel_rfl) rfl (by kernel_rfl) rfl ?_
  clear H; intro w H
  refine r_call cc24 (pequalT (((h56.mono hM60).mono hM61)) (h61) (by funext a b; exact Nat.add_assoc _ _ _)) H ?_
  clear H; rintro v62 M62 L62 w hM62 ⟨rfl, rfl, rfl⟩ H
  refine ⟨_, _, hM62, H, ?_⟩
  refine Ver.read (v := .bool _) 31 rfl (by kernel_rfl) (fun M' L' w hM H => r_pickB rfl rfl rfl ⟨rfl, rfl⟩) ?_
  refine Ver.read (v := .bool _) 32 rfl (by kernel_rfl) (fun M' L' w hM H => mvB rfl ⟨rfl, rfl⟩) ?_
  refine Ver.readY (v := .agg _) 33 rfl (by kernel_rfl) rfl (fun M' L' w hM H => ldA tt24 rfl (H.ro (hM _ _ (hM61 _ _ (hM60 _ _ (hM56 _ _ (hM54 _ _ (hM48 _ _ (hM45 _ _ (hM39 _ _ (hM36 _ _ (hM32 _ _ hb7))))))))))) rfl (by rfl) ⟨rfl, rfl⟩) ?_
  refine Ver.readY (v := .agg _) 34 rfl (by kernel_rfl) rfl (fun M' L' w hM H => ldA tt24 rfl (H.ro (hM _ _ (hM61 _ _ (hM60 _ _ (hM56 _ _ (hM54 _ _ (hM48 _ _ (hM45 _ _ (hM39 _ _ (hM36 _ _ (hM32 _ _ (hle7 _ _ hb9)))))))))))) rfl (by rfl) ⟨rfl, rfl⟩) ?_
  refine Ver.readY (v := .agg _) 36 rfl (by kernel_rfl) rfl (fun M' L' w hM H => ldA tt24 rfl (H.ro (hM _ _ (hM61 _ _ (hM60 _ _ (hM56 _ _ (hM54 _ _ (hM48 _ _ (hM45 _ _ (hM39 _ _ (hM36 _ _ (hM32 _ _ (hle7 _ _ (hle9 _ _ hb11))))))))))))) rfl (by rfl) ⟨rfl, rfl⟩) ?_
  refine Ver.readY (v := .agg _) 38 rfl (by kernel_rfl) rfl (fun M' L' w hM H => ldA tt24 rfl (H.ro (hM _ _ (hM61 _ _ (hM60 _ _ (hM56 _ _ (hM54 _ _ (hM48 _ _ (hM45 _ _ (hM39 _ _ (hM36 _ _ (hM32 _ _ hb7))))))))))) rfl (by rfl) ⟨rfl, rfl⟩) ?_
  refine Ver.readY (v := .agg _) 39 rfl (by kernel_rfl) rfl (fun M' L' w hM H => ldA tt24 rfl (H.ro (hM _ _ (hM61 _ _ (hM60 _ _ (hM56 _ _ (hM54 _ _ (hM48 _ _ (hM45 _ _ (hM39 _ _ (hM36 _ _ (hM32 _ _ (hle7 _ _ hb9)))))))))))) rfl (by rfl) ⟨rfl, rfl⟩) ?_
  refine Ver.readY (v := .agg _) 40 rfl (by kernel_rfl) rfl (fun M' L' w hM H => ldA tt24 rfl (H.ro (hM _ _ (hM61 _ _ (hM60 _ _ (hM56 _ _ (hM54 _ _ (hM48 _ _ (hM45 _ _ (hM39 _ _ (hM36 _ _ (hM32 _ _ (hle7 _ _ (hle9 _ _ hb11))))))))))))) rfl (by rfl) ⟨rfl, rfl⟩) ?_
  refine Ver.nextXY 35 (by kernel_rfl) rfl (by kernel_rfl) rfl ?_
  clear H; intro w H
  refine r_call cc20 (pmul_spec (k := 2) ((((((((((((((((((hf.p.mono hM22).mono hM27).mono hM31).mono hle14).mono hle13).mono hle11).mono hle9).mono hle7).mono hM32).mono hM36).mono hM39).mono hM45).mono hM48).mono hM54).mono hM56).mono hM60).mono hM61)) (((((((((((((((((hg.p.mono hM27).mono hM31).mono hle14).mono hle13).mono hle11).mono hle9).mono hle7).mono hM32).mono hM36).mono hM39).mono hM45).mono hM48).mono hM54).mono hM56).mono hM60).mono hM61)) lf lg (by first | omega | (dsimp only; omega))) H ?_
  clear H; rintro v67 M67 L67 w hM67 ⟨rfl, h67⟩ H
  refine ⟨_, _, hM67, H, ?_⟩
  refine Ver.nextXY 37 (by kernel_rfl) rfl (by kernel_rfl) rfl ?_
  clear H; intro w H
  refine r_call cc20 (pmul_spec (k := 6) (h67) (((((((((((((((((hh.p.mono hM31).mono hle14).mono hle13).mono hle11).mono hle9).mono hle7).mono hM32).mono hM36).mono hM39).mono hM45).mono hM48).mono hM54).mono hM56).mono hM60).mono hM61).mono hM67)) (fun a b => conv_lim (k := 2) (l := 2) lf lg a b) (fun a b => (lh a b).mono (k' := 6) (by first | omega | (dsimp only; omega))) (by first | omega | (dsimp only; omega))) H ?_
  clear H; rintro v69 M69 L69 w hM69 ⟨rfl, h69⟩ H
  refine ⟨_, _, hM69, H, ?_⟩
  refine Ver.nextXY 41 (by kernel_rfl) rfl (by kernel_rfl) rfl ?_
  clear H; intro w H
  refine r_call cc20 (pmul_spec (k := 2) (((((((((((((((((((hg.p.mono hM27).mono hM31).mono hle14).mono hle13).mono hle11).mono hle9).mono hle7).mono hM32).mono hM36).mono hM39).mono hM45).mono hM48).mono hM54).mono hM56).mono hM60).mono hM61).mono hM67).mono hM69)) ((((((((((((((((((hh.p.mono hM31).mono hle14).mono hle13).mono hle11).mono hle9).mono hle7).mono hM32).mono hM36).mono hM39).mono hM45).mono hM48).mono hM54).mono hM56).mono hM60).mono hM61).mono hM67).mono hM69)) lg lh (by first | omega | (dsimp only; omega))) H ?_
  clear H; rintro v73 M73 L73 w hM73 ⟨rfl, h73⟩ H
  refine ⟨_, _, hM73, H, ?_⟩
  refine Ver.nextXY 42 (by kernel_rfl) rfl (by kernel_rfl) rfl ?_
  clear H; intro w H
  refine r_call cc20 (pmul_spec (k := 6) (((((((((((((((((((((hf.p.mono hM22).mono hM27).mono hM31).mono hle14).mono hle13).mono hle11).mono hle9).mono hle7).mono hM32).mono hM36).mono hM39).mono hM45).mono hM48).mono hM54).mono hM56).mono hM60).mono hM61).mono hM67).mono hM69).mono hM73)) (h73) (fun a b => (lf a b).mono (k' := 6) (by first | omega | (dsimp only; omega))) (fun a b => conv_lim (k := 2) (l := 2) lg lh a b) (by first | omega | (dsimp only; omega))) H ?_
  clear H; rintro v74 M74 L74 w hM74 ⟨rfl, h74⟩ H
  refine ⟨_, _, hM74, H, ?_⟩
  refine Ver.nextXY 43 (by kernel_rfl) rfl (by kernel_rfl) rfl ?_
  clear H; intro w H
  refine r_call cc24 (pequalT (((h69.mono hM73).mono hM74)) (h74) (conv_assoc f g h)) H ?_
  clear H; rintro v75 M75 L75 w hM75 ⟨rfl, rfl, rfl⟩ H
  refine ⟨_, _, hM75, H, ?_⟩
  refine Ver.read (v := .bool _) 44 rfl (by kernel_rfl) (fun M' L' w hM H => r_pickB rfl rfl rfl ⟨rfl, rfl⟩) ?_
  refine Ver.read (v := .bool _) 45 rfl (by kernel_rfl) (fun M' L' w hM H => mvB rfl ⟨rfl, rfl⟩) ?_
  refine Ver.readY (v := .agg _) 46 rfl (by kernel_rfl) rfl (fun M' L' w hM H => ldA tt24 rfl (H.ro (hM _ _ (hM74 _ _ (hM73 _ _ (hM69 _ _ (hM67 _ _ (hM61 _ _ (hM60 _ _ (hM56 _ _ (hM54 _ _ (hM48 _ _ (hM45 _ _ (hM39 _ _ (hM36 _ _ (hM32 _ _ hb7))))))))))))))) rfl (by rfl) ⟨rfl, rfl⟩) ?_
  refine Ver.readY (v := .agg _) 47 rfl (by kernel_rfl) rfl (fun M' L' w hM H => ldA tt24 rfl (H.ro (hM _ _ (hM74 _ _ (hM73 _ _ (hM69 _ _ (hM67 _ _ (hM61 _ _ (hM60 _ _ (hM56 _ _ (hM54 _ _ (hM48 _ _ (hM45 _ _ (hM39 _ _ (hM36 _ _ (hM32 _ _ (hle7 _ _ hb9)))))))))))))))) rfl (by rfl) ⟨rfl, rfl⟩) ?_
  refine Ver.readY (v := .agg _) 48 rfl (by kernel_rfl) rfl (fun M' L' w hM H => ldA tt24 rfl (H.ro (hM _ _ (hM74 _ _ (hM73 _ _ (hM69 _ _ (hM67 _ _ (hM61 _ _ (hM60 _ _ (hM56 _ _ (hM54 _ _ (hM48 _ _ (hM45 _ _ (hM39 _ _ (hM36 _ _ (hM32 _ _ (hle7 _ _ (hle9 _ _ hb11))))))))))))))))) rfl (by rfl) ⟨rfl, rfl⟩) ?_
  refine Ver.readY (v := .agg _) 51 rfl (by kernel_rfl) rfl (fun M' L' w hM H => ldA tt24 rfl (H.ro (hM _ _ (hM74 _ _ (hM73 _ _ (hM69 _ _ (hM67 _ _ (hM61 _ _ (hM60 _ _ (hM56 _ _ (hM54 _ _ (hM48 _ _ (hM45 _ _ (hM39 _ _ (hM36 _ _ (hM32 _ _ hb7))))))))))))))) rfl (by rfl) ⟨rfl, rfl⟩) ?_
  refine Ver.readY (v := .agg _) 52 rfl (by kernel_rfl) rfl (fun M' L' w hM H => ldA tt24 rfl (H.ro (hM _ _ (hM74 _ _ (hM73 _ _ (hM69 _ _ (hM67 _ _ (hM61 _ _ (hM60 _ _ (hM56 _ _ (hM54 _ _ (hM48 _ _ (hM45 _ _ (hM39 _ _ (hM36 _ _ (hM32 _ _ (hle7 _ _ hb9)))))))))))))))) rfl (by rfl) ⟨rfl, rfl⟩) ?_
  refine Ver.readY (v := .agg _) 54 rfl (by kernel_rfl) rfl (fun M' L' w hM H => ldA tt24 rfl (H.ro (hM _ _ (hM74 _ _ (hM73 _ _ (hM69 _ _ (hM67 _ _ (hM61 _ _ (hM60 _ _ (hM56 _ _ (hM54 _ _ (hM48 _ _ (hM45 _ _ (hM39 _ _ (hM36 _ _ (hM32 _ _ hb7))))))))))))))) rfl (by rfl) ⟨rfl, rfl⟩) ?_
  refine Ver.readY (v := .agg _) 55 rfl (by kernel_rfl) rfl (fun M' L' w hM H => ldA tt24 rfl (H.ro (hM _ _ (hM74 _ _ (hM73 _ _ (hM69 _ _ (hM67 _ _ (hM61 _ _ (hM60 _ _ (hM56 _ _ (hM54 _ _ (hM48 _ _ (hM45 _ _ (hM39 _ _ (hM36 _ _ (hM32 _ _ (hle7 _ _ (hle9 _ _ hb11))))))))))))))))) rfl (by rfl) ⟨rfl, rfl⟩) ?_
  refine Ver.nextXY 49 (by kernel_rfl) rfl (by kernel_rfl) rfl ?_
  clear H; intro w H
  refine r_call cc18 (padd_spec (k := 2) (((((((((((((((((((((hg.p.mono hM27).mono hM31).mono hle14).mono hle13).mono hle11).mono hle9).mono hle7).mono hM32).mono hM36).mono hM39).mono hM45).mono hM48).mono hM54).mono hM56).mono hM60).mono hM61).mono hM67).mono hM69).mono hM73).mono hM74)) ((((((((((((((((((((hh.p.mono hM31).mono hle14).mono hle13).mono hle11).mono hle9).mono hle7).mono hM32).mono hM36).mono hM39).mono hM45).mono hM48).mono hM54).mono hM56).mono hM60).mono hM61).mono hM67).mono hM69).mono hM73).mono hM74)) lg lh (by first | omega | (dsimp only; omega))) H ?_
  clear H; rintro v81 M81 L81 w hM81 ⟨rfl, h81⟩ H
  refine ⟨_, _, hM81, H, ?_⟩
  refine Ver.nextXY 50 (by kernel_rfl) rfl (by kernel_rfl) rfl ?_
  clear H; intro w H
  refine r_call cc20 (pmul_spec (k := 3) (((((((((((((((((((((((hf.p.mono hM22).mono hM27).mono hM31).mono hle14).mono hle13).mono hle11).mono hle9).mono hle7).mono hM32).mono hM36).mono hM39).mono hM45).mono hM48).mono hM54).mono hM56).mono hM60).mono hM61).mono hM67).mono hM69).mono hM73).mono hM74).mono hM81)) (h81) (fun a b => (lf a b).mono (k' := 3) (by first | omega | (dsimp only; omega))) (fun a b => (lg a b).add (lh a b)) (by first | omega | (dsimp only; omega))) H ?_
  clear H; rintro v82 M82 L82 w hM82 ⟨rfl, h82⟩ H
  refine ⟨_, _, hM82, H, ?_⟩
  refine Ver.nextXY 53 (by kernel_rfl) rfl (by kernel_rfl) rfl ?_
  clear H; intro w H
  refine r_call cc20 (pmul_spec (k := 2) ((((((((((((((((((((((((hf.p.mono hM22).mono hM27).mono hM31).mono hle14).mono hle13).mono hle11).mono hle9).mono hle7).mono hM32).mono hM36).mono hM39).mono hM45).mono hM48).mono hM54).mono hM56).mono hM60).mono hM61).mono hM67).mono hM69).mono hM73).mono hM74).mono hM81).mono hM82)) (((((((((((((((((((((((hg.p.mono hM27).mono hM31).mono hle14).mono hle13).mono hle11).mono hle9).mono hle7).mono hM32).mono hM36).mono hM39).mono hM45).mono hM48).mono hM54).mono hM56).mono hM60).mono hM61).mono hM67).mono hM69).mono hM73).mono hM74).mono hM81).mono hM82)) lf lg (by first | omega | (dsimp only; omega))) H ?_
  clear H; rintro v85 M85 L85 w hM85 ⟨rfl, h85⟩ H
  refine ⟨_, _, hM85, H, ?_⟩
  refine Ver.nextXY 56 (by kernel_rfl) rfl (by kernel_rfl) rfl ?_
  clear H; intro w H
  refine r_call cc20 (pmul_spec (k := 2) (((((((((((((((((((((((((hf.p.mono hM22).mono hM27).mono hM31).mono hle14).mono hle13).mono hle11).mono hle9).mono hle7).mono hM32).mono hM36).mono hM39).mono hM45).mono hM48).mono hM54).mono hM56).mono hM60).mono hM61).mono hM67).mono hM69).mono hM73).mono hM74).mono hM81).mono hM82).mono hM85)) (((((((((((((((((((((((hh.p.mono hM31).mono hle14).mono hle13).mono hle11).mono hle9).mono hle7).mono hM32).mono hM36).mono hM39).mono hM45).mono hM48).mono hM54).mono hM56).mono hM60).mono hM61).mono hM67).mono hM69).mono hM73).mono hM74).mono hM81).mono hM82).mono hM85)) lf lh (by first | omega | (dsimp only; omega))) H ?_
  clear H; rintro v88 M88 L88 w hM88 ⟨rfl, h88⟩ H
  refine ⟨_, _, hM88, H, ?_⟩
  refine Ver.nextXY 57 (by kernel_rfl) rfl (by kernel_rfl) rfl ?_
  clear H; intro w H
  refine r_call cc18 (padd_spec (k := 6) ((h85.mono hM88)) (h88) (fun a b => conv_lim (k := 2) (l := 2) lf lg a b) (fun a b => conv_lim (k := 2) (l := 2) lf lh a b) (by first | omega | (dsimp only; omega))) H ?_
  clear H; rintro v89 M89 L89 w hM89 ⟨rfl, h89⟩ H
  refine ⟨_, _, hM89, H, ?_⟩
  refine Ver.nextXY 58 (by kernel_rfl) rfl (by kernel_rfl) rfl ?_
  clear H; intro w H
  refine r_call cc24 (pequalT ((((h82.mono hM85).mono hM88).mono hM89)) (h89) (conv_add f g h)) H ?_
  clear H; rintro v90 M90 L90 w hM90 ⟨rfl, rfl, rfl⟩ H
  refine ⟨_, _, hM90, H, ?_⟩
  refine Ver.read (v := .bool _) 59 rfl (by kernel_rfl) (fun M' L' w hM H => r_pickB rfl rfl rfl ⟨rfl, rfl⟩) ?_
  refine Ver.read (v := .bool _) 60 rfl (by kernel_rfl) (fun M' L' w hM H => mvB rfl ⟨rfl, rfl⟩) ?_
  refine Ver.readY (v := .agg _) 61 rfl (by kernel_rfl) rfl (fun M' L' w hM H => ldA tt24 rfl (H.ro (hM _ _ (hM89 _ _ (hM88 _ _ (hM85 _ _ (hM82 _ _ (hM81 _ _ (hM74 _ _ (hM73 _ _ (hM69 _ _ (hM67 _ _ (hM61 _ _ (hM60 _ _ (hM56 _ _ (hM54 _ _ (hM48 _ _ (hM45 _ _ (hM39 _ _ (hM36 _ _ (hM32 _ _ hb7)))))))))))))))))))) rfl (by rfl) ⟨rfl, rfl⟩) ?_
  refine Ver.readY (v := .agg _) 62 rfl (by kernel_rfl) rfl (fun M' L' w hM H => ldA tt24 rfl (H.ro (hM _ _ (hM89 _ _ (hM88 _ _ (hM85 _ _ (hM82 _ _ (hM81 _ _ (hM74 _ _ (hM73 _ _ (hM69 _ _ (hM67 _ _ (hM61 _ _ (hM60 _ _ (hM56 _ _ (hM54 _ _ (hM48 _ _ (hM45 _ _ (hM39 _ _ (hM36 _ _ (hM32 _ _ (hle7 _ _ (hle9 _ _ (hle11 _ _ hb13))))))))))))))))))))))) rfl (by rfl) ⟨rfl, rfl⟩) ?_
  refine Ver.readY (v := .agg _) 64 rfl (by kernel_rfl) rfl (fun M' L' w hM H => ldA tt24 rfl (H.ro (hM _ _ (hM89 _ _ (hM88 _ _ (hM85 _ _ (hM82 _ _ (hM81 _ _ (hM74 _ _ (hM73 _ _ (hM69 _ _ (hM67 _ _ (hM61 _ _ (hM60 _ _ (hM56 _ _ (hM54 _ _ (hM48 _ _ (hM45 _ _ (hM39 _ _ (hM36 _ _ (hM32 _ _ hb7)))))))))))))))))))) rfl (by rfl) ⟨rfl, rfl⟩) ?_
  refine Ver.nextXY 63 (by kernel_rfl) rfl (by kernel_rfl) rfl ?_
  clear H; intro w H
  refine r_call cc18 (padd_spec (k := 2) (((((((((((((((((((((((((((hf.p.mono hM22).mono hM27).mono hM31).mono hle14).mono hle13).mono hle11).mono hle9).mono hle7).mono hM32).mono hM36).mono hM39).mono hM45).mono hM48).mono hM54).mono hM56).mono hM60).mono hM61).mono hM67).mono hM69).mono hM73).mono hM74).mono hM81).mono hM82).mono hM85).mono hM88).mono hM89)) (PolyV.zero _) lf (fun _ _ => show Go.Nat32.lim 2 0 by unfold Go.Nat32.lim; decide) (by first | omega | (dsimp only; omega))) H ?_
  clear H; rintro v95 M95 L95 w hM95 ⟨rfl, h95⟩ H
  refine ⟨_, _, hM95, H, ?_⟩
  refine Ver.nextXY 65 (by kernel_rfl) rfl (by kernel_rfl) rfl ?_
  clear H; intro w H
  refine r_call cc24 (pequalT (h95) ((((((((((((((((((((((((((((hf.p.mono hM22).mono hM27).mono hM31).mono hle14).mono hle13).mono hle11).mono hle9).mono hle7).mono hM32).mono hM36).mono hM39).mono hM45).mono hM48).mono hM54).mono hM56).mono hM60).mono hM61).mono hM67).mono hM69).mono hM73).mono hM74).mono hM81).mono hM82).mono hM85).mono hM88).mono hM89).mono hM95)) (by funext a b; exact Nat.add_zero _)) H ?_
  clear H; rintro v97 M97 L97 w hM97 ⟨rfl, rfl, rfl⟩ H
  refine ⟨_, _, hM97, H, ?_⟩
  refine Ver.read (v := .bool _) 66 rfl (by kernel_rfl) (fun M' L' w hM H => r_pickB rfl rfl rfl ⟨rfl, rfl⟩) ?_
  refine Ver.read (v := .bool _) 67 rfl (by kernel_rfl) (fun M' L' w hM H => mvB rfl ⟨rfl, rfl⟩) ?_
  refine Ver.readY (v := .agg _) 68 rfl (by kernel_rfl) rfl (fun M' L' w hM H => ldA tt24 rfl (H.ro (hM _ _ (hM95 _ _ (hM89 _ _ (hM88 _ _ (hM85 _ _ (hM82 _ _ (hM81 _ _ (hM74 _ _ (hM73 _ _ (hM69 _ _ (hM67 _ _ (hM61 _ _ (hM60 _ _ (hM56 _ _ (hM54 _ _ (hM48 _ _ (hM45 _ _ (hM39 _ _ (hM36 _ _ (hM32 _ _ hb7))))))))))))))))))))) rfl (by rfl) ⟨rfl, rfl⟩) ?_
  refine Ver.readY (v := .agg _) 69 rfl (by kernel_rfl) rfl (fun M' L' w hM H => ldA tt24 rfl (H.ro (hM _ _ (hM95 _ _ (hM89 _ _ (hM88 _ _ (hM85 _ _ (hM82 _ _ (hM81 _ _ (hM74 _ _ (hM73 _ _ (hM69 _ _ (hM67 _ _ (hM61 _ _ (hM60 _ _ (hM56 _ _ (hM54 _ _ (hM48 _ _ (hM45 _ _ (hM39 _ _ (hM36 _ _ (hM32 _ _ (hle7 _ _ (hle9 _ _ (hle11 _ _ (hle13 _ _ hb14))))))))))))))))))))))))) rfl (by rfl) ⟨rfl, rfl⟩) ?_
  refine Ver.readY (v := .agg _) 71 rfl (by kernel_rfl) rfl (fun M' L' w hM H => ldA tt24 rfl (H.ro (hM _ _ (hM95 _ _ (hM89 _ _ (hM88 _ _ (hM85 _ _ (hM82 _ _ (hM81 _ _ (hM74 _ _ (hM73 _ _ (hM69 _ _ (hM67 _ _ (hM61 _ _ (hM60 _ _ (hM56 _ _ (hM54 _ _ (hM48 _ _ (hM45 _ _ (hM39 _ _ (hM36 _ _ (hM32 _ _ hb7))))))))))))))))))))) rfl (by rfl) ⟨rfl, rfl⟩) ?_
  refine Ver.nextXY 70 (by kernel_rfl) rfl (by kernel_rfl) rfl ?_
  clear H; intro w H
  refine r_call cc20 (pmul_spec (k := 2) ((((((((((((((((((((((((((((hf.p.mono hM22).mono hM27).mono hM31).mono hle14).mono hle13).mono hle11).mono hle9).mono hle7).mono hM32).mono hM36).mono hM39).mono hM45).mono hM48).mono hM54).mono hM56).mono hM60).mono hM61).mono hM67).mono hM69).mono hM73).mono hM74).mono hM81).mono hM82).mono hM85).mono hM88).mono hM89).mono hM95)) (((((((((((((((((((((((((h31.mono hle14).mono hle13).mono hle11).mono hle9).mono hle7).mono hM32).mono hM36).mono hM39).mono hM45).mono hM48).mono hM54).mono hM56).mono hM60).mono hM61).mono hM67).mono hM69).mono hM73).mono hM74).mono hM81).mono hM82).mono hM85).mono hM88).mono hM89).mono hM95)) lf (fun a b => (monoF_lim a b).mono (k' := 2) (by first | omega | (dsimp only; omega))) (by first | omega | (dsimp only; omega))) H ?_
  clear H; rintro v102 M102 L102 w hM102 ⟨rfl, h102⟩ H
  refine ⟨_, _, hM102, H, ?_⟩
  refine Ver.nextXY 72 (by kernel_rfl) rfl (by kernel_rfl) rfl ?_
  clear H; intro w H
  refine r_call cc24 (pequalT (h102) (((((((((((((((((((((((((((((hf.p.mono hM22).mono hM27).mono hM31).mono hle14).mono hle13).mono hle11).mono hle9).mono hle7).mono hM32).mono hM36).mono hM39).mono hM45).mono hM48).mono hM54).mono hM56).mono hM60).mono hM61).mono hM67).mono hM69).mono hM73).mono hM74).mono hM81).mono hM82).mono hM85).mono hM88).mono hM89).mono hM95).mono hM102)) (conv_one' hf.p.boxed)) H ?_
  clear H; rintro v104 M104 L104 w hM104 ⟨rfl, rfl, rfl⟩ H
  refine ⟨_, _, hM104, H, ?_⟩
  refine Ver.read (v := .bool _) 73 rfl (by kernel_rfl) (fun M' L' w hM H => r_pickB rfl rfl rfl ⟨rfl, rfl⟩) ?_
  refine Ver.read (v := .bool _) 74 rfl (by kernel_rfl) (fun M' L' w hM H => mvB rfl ⟨rfl, rfl⟩) ?_
  refine Ver.readY (v := .agg _) 75 rfl (by kernel_rfl) rfl (fun M' L' w hM H => ldA tt24 rfl (H.ro (hM _ _ (hM102 _ _ (hM95 _ _ (hM89 _ _ (hM88 _ _ (hM85 _ _ (hM82 _ _ (hM81 _ _ (hM74 _ _ (hM73 _ _ (hM69 _ _ (hM67 _ _ (hM61 _ _ (hM60 _ _ (hM56 _ _ (hM54 _ _ (hM48 _ _ (hM45 _ _ (hM39 _ _ (hM36 _ _ (hM32 _ _ hb7)))))))))))))))))))))) rfl (by rfl) ⟨rfl, rfl⟩) ?_
  refine Ver.readY (v := .agg _) 76 rfl (by kernel_rfl) rfl (fun M' L' w hM H => ldA tt24 rfl (H.ro (hM _ _ (hM102 _ _ (hM95 _ _ (hM89 _ _ (hM88 _ _ (hM85 _ _ (hM82 _ _ (hM81 _ _ (hM74 _ _ (hM73 _ _ (hM69 _ _ (hM67 _ _ (hM61 _ _ (hM60 _ _ (hM56 _ _ (hM54 _ _ (hM48 _ _ (hM45 _ _ (hM39 _ _ (hM36 _ _ (hM32 _ _ (hle7 _ _ (hle9 _ _ (hle11 _ _ hb13))))))))))))))))))))))))) rfl (by rfl) ⟨rfl, rfl⟩) ?_
  refine Ver.readY (v := .agg _) 78 rfl (by kernel_rfl) rfl (fun M' L' w hM H => ldA tt24 rfl (H.ro (hM _ _ (hM102 _ _ (hM95 _ _ (hM89 _ _ (hM88 _ _ (hM85 _ _ (hM82 _ _ (hM81 _ _ (hM74 _ _ (hM73 _ _ (hM69 _ _ (hM67 _ _ (hM61 _ _ (hM60 _ _ (hM56 _ _ (hM54 _ _ (hM48 _ _ (hM45 _ _ (hM39 _ _ (hM36 _ _ (hM32 _ _ (hle7 _ _ (hle9 _ _ (hle11 _ _ hb13))))))))))))))))))))))))) rfl (by rfl) ⟨rfl, rfl⟩) ?_
  refine Ver.nextXY 77 (by kernel_rfl) rfl (by kernel_rfl) rfl ?_
  clear H; intro w H
  refine r_call cc20 (pmul_spec (k := 2) (((((((((((((((((((((((((((((hf.p.mono hM22).mono hM27).mono hM31).mono hle14).mono hle13).mono hle11).mono hle9).mono hle7).mono hM32).mono hM36).mono hM39).mono hM45).mono hM48).mono hM54).mono hM56).mono hM60).mono hM61).mono hM67).mono hM69).mono hM73).mono hM74).mono hM81).mono hM82).mono hM85).mono hM88).mono hM89).mono hM95).mono hM102)) (PolyV.zero _) lf (fun _ _ => show Go.Nat32.lim 2 0 by unfold Go.Nat32.lim; decide) (by first | omega | (dsimp only; omega))) H ?_
  clear H; rintro v109 M109 L109 w hM109 ⟨rfl, h109⟩ H
  refine ⟨_, _, hM109, H, ?_⟩
  refine Ver.nextXY 79 (by kernel_rfl) rfl (by kernel_rfl) rfl ?_
  clear H; intro w H
  refine r_call cc24 (pequalT (h109) (PolyV.zero _) (conv_zero_r f)) H ?_
  clear H; rintro v111 M111 L111 w hM111 ⟨rfl, rfl, rfl⟩ H
  refine ⟨_, _, hM111, H, ?_⟩
  refine Ver.read (v := .bool _) 80 rfl (by kernel_rfl) (fun M' L' w hM H => r_pickB rfl rfl rfl ⟨rfl, rfl⟩) ?_
  refine Ver.read (v := .bool _) 81 rfl (by kernel_rfl) (fun M' L' w hM H => asB rfl ⟨rfl, rfl⟩) ?_
  refine Ver.finX (by kernel_rfl) ?_
  clear H; intro w H
  exact Goes.ret (ret1 (v := .bool _) rfl rfl rfl H.nil rfl)

end Go.Proofs.YtlcpdkckldlceaaGreatDoor
namespace Go.Proofs.YtlcpdkckldlceaaGreatDoor
open Go.Sx Go.Nat32 Go.Dec Go.PolyL Go.Lib Go.Proofs
attribute [local irreducible] pt sl itc itm
set_option maxRecDepth 100000
set_option maxHeartbeats 1000000

end Go.Proofs.YtlcpdkckldlceaaGreatDoor
namespace Go.Sx
set_option maxRecDepth 100000
theorem r_eqlBT {P : Program} {ρ : Env} {w : World} {K : Value → World → Prop} {dst ty pos aft g} {t yt : TypeId} {x y : Operand} {a b : Bool} {n by_ : Nat} {z : Value} (ht : tinfo P t = some (.bool, n, by_, z)) (hx : ρ.ev x = .bool a) (hy : ρ.ev y = .bool b) (hc : a = b) (h : K (.bool true) w) : OpRuns P ρ ⟨dst, .binOp .eql t x y yt, ty, pos, aft, g⟩ w K := by
  subst hc
  refine .ofV (s := do eqGuard .eql t x y (ρ.ev x) (ρ.ev y); Go.binOp .eql t (ρ.ev x) (ρ.ev y)) rfl ?_
  rw [hx, hy]
  refine Runs.bind ?_
  have : Runs P (eqGuard .eql t x y (.bool a) (.bool a)) w fun _ w' => w' = w := by unfold eqGuard; exact rfl
  refine this.mono ?_
  rintro _ w' rfl
  have e : Go.binOp .eql t (.bool a) (.bool a) = (do let r ← Op.equal t (.bool a) (.bool a); pure (.bool r)) := rfl
  rw [e]
  refine Runs.bind ?_
  unfold Op.equal Op.maxDepth Op.equalIn
  refine .bind (.underlying ht ?_)
  cases a <;> exact h
end Go.Sx
namespace Go.Proofs.YtlcpdkckldlceaaGreatDoor
open Go.Sx Go.Nat32 Go.Dec Go.PolyL Go.Lib Go.Proofs
attribute [local irreducible] pt sl itc itm
set_option maxRecDepth 100000
set_option maxHeartbeats 1000000
set_option linter.unusedVariables false
set_option linter.unusedSimpArgs false

theorem ringSameT {M : RO} {z : Array Value} {v u : Value} {f g : Nat → Nat → Nat} (hv : PolyV M v f) (hu : PolyV M u g) (h : f = g) :
    Sp Tryz.prog 46 [.agg z, v, u] M [] fun r M' L' => L' = [] ∧ M' = M ∧ r = .bool true := by
  refine (ringSame_spec hv hu).mono ?_
  rintro r M' L' _ ⟨rfl, rfl, t, rfl, ht⟩
  rw [ht.2 h]; exact ⟨rfl, rfl, rfl⟩

theorem ring_law {M : RO} (hT : TabM M) (hm : MaxM M) {va vb : Value} {ta tb : List (Nat × Nat × Nat)} (ha : ArgT M va ta) (hb : ArgT M vb tb) :
    Sp0 Tryz.prog 9 [va, vb] M [] fun r _ _ => r = .bool true := by
  have ha' := ha
  have hb' := hb
  obtain ⟨aa, ac, rfl, _⟩ := ha.shape
  obtain ⟨ba, bc, rfl, _⟩ := hb.shape
  refine Sp0.enter (n := 70) Tryz.func9 rfl Tryz.ntmps9 rfl ?_
  intro E hdr hE H
  subst hE
  refine Goes.seq (Goes.region ?_)
  refine GoL.stepS rfl rfl (asB rfl ?_)
  refine GoL.nil ?_
  refine Goes.seq (Goes.region ?_)
  refine GoL.stepS rfl rfl (mvL rfl ?_)
  refine GoL.stepS rfl rfl (r_call cc17 (made40_spec (most := 5) ha' (by decide)) H ?_); clear H; rintro v12 M12 L12 w hM12 ⟨rfl, p12, u12, f, rfl, hf⟩ H
  refine GoL.stepS rfl rfl (mvT rfl ?_)
  obtain ⟨q12, a12, n12, c12, rfl, rfl⟩ := hf.shapes
  refine GoL.stepS rfl rfl (r_extract rfl rfl ?_)
  refine GoL.stepS rfl rfl (r_extract rfl rfl ?_)
  refine GoL.stepS rfl rfl (r_alloc tt24 H ?_); clear H; intro b5 w hb5 H
  refine GoL.step0 rfl (stA tt24 rfl rfl H (by repeat constructor) rfl rfl (by rfl) ?_); clear H; intro w H
  refine GoL.stepS rfl rfl (asL rfl ?_)
  refine GoL.nil ?_
  refine Goes.seq (Goes.region ?_)
  refine GoL.stepS rfl rfl (mvL rfl ?_)
  refine GoL.stepS rfl rfl (r_call cc17 (made40_spec (most := 5) (hb'.mono hM12) (by decide)) H ?_); clear H; rintro v17 M17 L17 w hM17 ⟨rfl, p17, u17, g, rfl, hg⟩ H
  refine GoL.stepS rfl rfl (mvT rfl ?_)
  obtain ⟨q17, a17, n17, c17, rfl, rfl⟩ := hg.shapes
  refine GoL.stepS rfl rfl (r_extract rfl rfl ?_)
  refine GoL.stepS rfl rfl (r_extract rfl rfl ?_)
  refine GoL.stepS rfl rfl (r_alloc tt24 H ?_); clear H; intro b7 w hb7 H
  refine GoL.step0 rfl (stA tt24 rfl rfl H (by repeat constructor) rfl rfl (by rfl) ?_); clear H; intro w H
  refine GoL.stepS rfl rfl (asL rfl ?_)
  refine GoL.nil ?_
  refine Goes.seq (Goes.region ?_)
  refine GoL.stepS rfl rfl (bld (cells := []) tt76 pl76 pz76 rfl (by rfl) ?_)
  refine GoL.stepS rfl rfl (r_alloc tt76 H ?_); clear H; intro b9 w hb9 H
  refine GoL.step0 rfl (stA tt76 rfl rfl H (by repeat constructor) rfl rfl (by rfl) ?_); clear H; intro w H
  refine GoL.nil ?_
  refine Goes.seq ?_
  obtain ⟨K9, hb9, hle9, H⟩ := H.freezeX (i := 0) .head
  obtain ⟨K7, hb7, hle7, H⟩ := H.freezeX (i := 0) .head
  obtain ⟨K5, hb5, hle5, H⟩ := H.freezeX (i := 0) .head
  have lf := hf.lim
  have lg := hg.lim
  refine Goes.regionDX mixed (by kernel_rfl) 51 H ?_
  refine Ver.nextX 0 (by kernel_rfl) rfl (by kernel_rfl) ?_
  clear H; intro w H
  refine r_call0 hdr cc14 (known_spec (((((hT.mono hM12).mono hM17).mono hle9).mono hle7).mono hle5) (((((hm.mono hM12).mono hM17).mono hle9).mono hle7).mono hle5)) H ?_
  clear H; rintro v21 M21 L21 w hM21 ⟨rfl, rfl⟩ H
  refine ⟨_, _, hM21, H, ?_⟩
  refine Ver.read (v := .bool _) 1 rfl (by kernel_rfl) (fun M' L' w hM H => mvB rfl ⟨rfl, rfl⟩) ?_
  refine Ver.readY (v := .agg _) 2 rfl (by kernel_rfl) rfl (fun M' L' w hM H => ldA tt76 rfl (H.ro (hM _ _ (hM21 _ _ (hle5 _ _ (hle7 _ _ hb9))))) rfl (by rfl) ⟨rfl, rfl⟩) ?_
  refine Ver.nextXY 3 (by kernel_rfl) rfl (by kernel_rfl) rfl ?_
  clear H; intro w H
  refine r_call cc42 (ringZero_spec) H ?_
  clear H; rintro v24 M24 L24 w hM24 ⟨rfl, h24⟩ H
  refine ⟨_, _, hM24, H, ?_⟩
  refine Ver.nextXY 4 (by kernel_rfl) rfl (by kernel_rfl) rfl ?_
  clear H; intro w H
  refine r_call cc22 (zero_spec) H ?_
  clear H; rintro v25 M25 L25 w hM25 ⟨rfl, rfl, rfl⟩ H
  refine ⟨_, _, hM25, H, ?_⟩
  refine Ver.nextXY 5 (by kernel_rfl) rfl (by kernel_rfl) rfl ?_
  clear H; intro w H
  refine r_call cc24 (pequalT h24 (PolyV.zero _) rfl) H ?_
  clear H; rintro v26 M26 L26 w hM26 ⟨rfl, rfl, rfl⟩ H
  refine ⟨_, _, hM26, H, ?_⟩
  refine Ver.read (v := .bool _) 6 rfl (by kernel_rfl) (fun M' L' w hM H => r_pickB rfl rfl rfl ⟨rfl, rfl⟩) ?_
  refine Ver.read (v := .bool _) 7 rfl (by kernel_rfl) (fun M' L' w hM H => mvB rfl ⟨rfl, rfl⟩) ?_
  refine Ver.readY (v := .agg _) 8 rfl (by kernel_rfl) rfl (fun M' L' w hM H => ldA tt76 rfl (H.ro (hM _ _ (hM24 _ _ (hM21 _ _ (hle5 _ _ (hle7 _ _ hb9)))))) rfl (by rfl) ⟨rfl, rfl⟩) ?_
  refine Ver.nextXY 9 (by kernel_rfl) rfl (by kernel_rfl) rfl ?_
  clear H; intro w H
  refine r_call cc43 (ringOne_spec) H ?_
  clear H; rintro v30 M30 L30 w hM30 ⟨rfl, h30⟩ H
  refine ⟨_, _, hM30, H, ?_⟩
  refine Ver.nextXY 10 (by kernel_rfl) rfl (by kernel_rfl) rfl ?_
  clear H; intro w H
  refine r_call cc23 (one_spec) H ?_
  clear H; rintro v31 M31 L31 w hM31 ⟨rfl, h31⟩ H
  refine ⟨_, _, hM31, H, ?_⟩
  refine Ver.nextXY 11 (by kernel_rfl) rfl (by kernel_rfl) rfl ?_
  clear H; intro w H
  refine r_call cc24 (pequalT (h30.mono hM31) h31 rfl) H ?_
  clear H; rintro v32 M32 L32 w hM32 ⟨rfl, rfl, rfl⟩ H
  refine ⟨_, _, hM32, H, ?_⟩
  refine Ver.read (v := .bool _) 12 rfl (by kernel_rfl) (fun M' L' w hM H => r_pickB rfl rfl rfl ⟨rfl, rfl⟩) ?_
  refine Ver.read (v := .bool _) 13 rfl (by kernel_rfl) (fun M' L' w hM H => mvB rfl ⟨rfl, rfl⟩) ?_
  refine Ver.readY (v := .agg _) 14 rfl (by kernel_rfl) rfl (fun M' L' w hM H => ldA tt76 rfl (H.ro (hM _ _ (hM31 _ _ (hM30 _ _ (hM24 _ _ (hM21 _ _ (hle5 _ _ (hle7 _ _ hb9)))))))) rfl (by rfl) ⟨rfl, rfl⟩) ?_
  refine Ver.readY (v := .agg _) 15 rfl (by kernel_rfl) rfl (fun M' L' w hM H => ldA tt24 rfl (H.ro (hM _ _ (hM31 _ _ (hM30 _ _ (hM24 _ _ (hM21 _ _ hb5)))))) rfl (by rfl) ⟨rfl, rfl⟩) ?_
  refine Ver.readY (v := .agg _) 16 rfl (by kernel_rfl) rfl (fun M' L' w hM H => ldA tt24 rfl (H.ro (hM _ _ (hM31 _ _ (hM30 _ _ (hM24 _ _ (hM21 _ _ (hle5 _ _ hb7))))))) rfl (by rfl) ⟨rfl, rfl⟩) ?_
  refine Ver.readY (v := .agg _) 18 rfl (by kernel_rfl) rfl (fun M' L' w hM H => ldA tt24 rfl (H.ro (hM _ _ (hM31 _ _ (hM30 _ _ (hM24 _ _ (hM21 _ _ hb5)))))) rfl (by rfl) ⟨rfl, rfl⟩) ?_
  refine Ver.readY (v := .agg _) 19 rfl (by kernel_rfl) rfl (fun M' L' w hM H => ldA tt24 rfl (H.ro (hM _ _ (hM31 _ _ (hM30 _ _ (hM24 _ _ (hM21 _ _ (hle5 _ _ hb7))))))) rfl (by rfl) ⟨rfl, rfl⟩) ?_
  refine Ver.nextXY 17 (by kernel_rfl) rfl (by kernel_rfl) rfl ?_
  clear H; intro w H
  refine r_call cc44 (ringAdd_spec (k := 2) ((((((((hf.p.mono hM17).mono hle9).mono hle7).mono hle5).mono hM21).mono hM24).mono hM30).mono hM31) (((((((hg.p.mono hle9).mono hle7).mono hle5).mono hM21).mono hM24).mono hM30).mono hM31) lf lg (by first | omega | (dsimp only; omega))) H ?_
  clear H; rintro v38 M38 L38 w hM38 ⟨rfl, h38⟩ H
  refine ⟨_, _, hM38, H, ?_⟩
  refine Ver.nextXY 20 (by kernel_rfl) rfl (by kernel_rfl) rfl ?_
  clear H; intro w H
  refine r_call cc18 (padd_spec (k := 2) (((((((((hf.p.mono hM17).mono hle9).mono hle7).mono hle5).mono hM21).mono hM24).mono hM30).mono hM31).mono hM38) ((((((((hg.p.mono hle9).mono hle7).mono hle5).mono hM21).mono hM24).mono hM30).mono hM31).mono hM38) lf lg (by first | omega | (dsimp only; omega))) H ?_
  clear H; rintro v41 M41 L41 w hM41 ⟨rfl, h41⟩ H
  refine ⟨_, _, hM41, H, ?_⟩
  refine Ver.nextXY 21 (by kernel_rfl) rfl (by kernel_rfl) rfl ?_
  clear H; intro w H
  refine r_call cc24 (pequalT (h38.mono hM41) h41 rfl) H ?_
  clear H; rintro v42 M42 L42 w hM42 ⟨rfl, rfl, rfl⟩ H
  refine ⟨_, _, hM42, H, ?_⟩
  refine Ver.read (v := .bool _) 22 rfl (by kernel_rfl) (fun M' L' w hM H => r_pickB rfl rfl rfl ⟨rfl, rfl⟩) ?_
  refine Ver.read (v := .bool _) 23 rfl (by kernel_rfl) (fun M' L' w hM H => mvB rfl ⟨rfl, rfl⟩) ?_
  refine Ver.readY (v := .agg _) 24 rfl (by kernel_rfl) rfl (fun M' L' w hM H => ldA tt76 rfl (H.ro (hM _ _ (hM41 _ _ (hM38 _ _ (hM31 _ _ (hM30 _ _ (hM24 _ _ (hM21 _ _ (hle5 _ _ (hle7 _ _ hb9)))))))))) rfl (by rfl) ⟨rfl, rfl⟩) ?_
  refine Ver.readY (v := .agg _) 25 rfl (by kernel_rfl) rfl (fun M' L' w hM H => ldA tt24 rfl (H.ro (hM _ _ (hM41 _ _ (hM38 _ _ (hM31 _ _ (hM30 _ _ (hM24 _ _ (hM21 _ _ hb5)))))))) rfl (by rfl) ⟨rfl, rfl⟩) ?_
  refine Ver.readY (v := .agg _) 26 rfl (by kernel_rfl) rfl (fun M' L' w hM H => ldA tt24 rfl (H.ro (hM _ _ (hM41 _ _ (hM38 _ _ (hM31 _ _ (hM30 _ _ (hM24 _ _ (hM21 _ _ (hle5 _ _ hb7))))))))) rfl (by rfl) ⟨rfl, rfl⟩) ?_
  refine Ver.readY (v := .agg _) 28 rfl (by kernel_rfl) rfl (fun M' L' w hM H => ldA tt24 rfl (H.ro (hM _ _ (hM41 _ _ (hM38 _ _ (hM31 _ _ (hM30 _ _ (hM24 _ _ (hM21 _ _ hb5)))))))) rfl (by rfl) ⟨rfl, rfl⟩) ?_
  refine Ver.readY (v := .agg _) 29 rfl (by kernel_rfl) rfl (fun M' L' w hM H => ldA tt24 rfl (H.ro (hM _ _ (hM41 _ _ (hM38 _ _ (hM31 _ _ (hM30 _ _ (hM24 _ _ (hM21 _ _ (hle5 _ _ hb7))))))))) rfl (by rfl) ⟨rfl, rfl⟩) ?_
  refine Ver.nextXY 27 (by kernel_rfl) rfl (by kernel_rfl) rfl ?_
  clear H; intro w H
  refine r_call cc45 (ringMul_spec (k := 2) ((((((((((hf.p.mono hM17).mono hle9).mono hle7).mono hle5).mono hM21).mono hM24).mono hM30).mono hM31).mono hM38).mono hM41) (((((((((hg.p.mono hle9).mono hle7).mono hle5).mono hM21).mono hM24).mono hM30).mono hM31).mono hM38).mono hM41) lf lg (by first | omega | (dsimp only; omega))) H ?_
  clear H; rintro v48 M48 L48 w hM48 ⟨rfl, h48⟩ H
  refine ⟨_, _, hM48, H, ?_⟩
  refine Ver.nextXY 30 (by kernel_rfl) rfl (by kernel_rfl) rfl ?_
  clear H; intro w H
  refine r_call cc20 (pmul_spec (k := 2) (((((((((((hf.p.mono hM17).mono hle9).mono hle7).mono hle5).mono hM21).mono hM24).mono hM30).mono hM31).mono hM38).mono hM41).mono hM48) ((((((((((hg.p.mono hle9).mono hle7).mono hle5).mono hM21).mono hM24).mono hM30).mono hM31).mono hM38).mono hM41).mono hM48) lf lg (by first | omega | (dsimp only; omega))) H ?_
  clear H; rintro v51 M51 L51 w hM51 ⟨rfl, h51⟩ H
  refine ⟨_, _, hM51, H, ?_⟩
  refine Ver.nextXY 31 (by kernel_rfl) rfl (by kernel_rfl) rfl ?_
  clear H; intro w H
  refine r_call cc24 (pequalT (h48.mono hM51) h51 rfl) H ?_
  clear H; rintro v52 M52 L52 w hM52 ⟨rfl, rfl, rfl⟩ H
  refine ⟨_, _, hM52, H, ?_⟩
  refine Ver.read (v := .bool _) 32 rfl (by kernel_rfl) (fun M' L' w hM H => r_pickB rfl rfl rfl ⟨rfl, rfl⟩) ?_
  refine Ver.read (v := .bool _) 33 rfl (by kernel_rfl) (fun M' L' w hM H => mvB rfl ⟨rfl, rfl⟩) ?_
  refine Ver.readY (v := .agg _) 34 rfl (by kernel_rfl) rfl (fun M' L' w hM H => ldA tt76 rfl (H.ro (hM _ _ (hM51 _ _ (hM48 _ _ (hM41 _ _ (hM38 _ _ (hM31 _ _ (hM30 _ _ (hM24 _ _ (hM21 _ _ (hle5 _ _ (hle7 _ _ hb9)))))))))))) rfl (by rfl) ⟨rfl, rfl⟩) ?_
  refine Ver.readY (v := .agg _) 35 rfl (by kernel_rfl) rfl (fun M' L' w hM H => ldA tt24 rfl (H.ro (hM _ _ (hM51 _ _ (hM48 _ _ (hM41 _ _ (hM38 _ _ (hM31 _ _ (hM30 _ _ (hM24 _ _ (hM21 _ _ hb5)))))))))) rfl (by rfl) ⟨rfl, rfl⟩) ?_
  refine Ver.readY (v := .agg _) 36 rfl (by kernel_rfl) rfl (fun M' L' w hM H => ldA tt24 rfl (H.ro (hM _ _ (hM51 _ _ (hM48 _ _ (hM41 _ _ (hM38 _ _ (hM31 _ _ (hM30 _ _ (hM24 _ _ (hM21 _ _ (hle5 _ _ hb7))))))))))) rfl (by rfl) ⟨rfl, rfl⟩) ?_
  refine Ver.readY (v := .agg _) 38 rfl (by kernel_rfl) rfl (fun M' L' w hM H => ldA tt24 rfl (H.ro (hM _ _ (hM51 _ _ (hM48 _ _ (hM41 _ _ (hM38 _ _ (hM31 _ _ (hM30 _ _ (hM24 _ _ (hM21 _ _ hb5)))))))))) rfl (by rfl) ⟨rfl, rfl⟩) ?_
  refine Ver.readY (v := .agg _) 39 rfl (by kernel_rfl) rfl (fun M' L' w hM H => ldA tt24 rfl (H.ro (hM _ _ (hM51 _ _ (hM48 _ _ (hM41 _ _ (hM38 _ _ (hM31 _ _ (hM30 _ _ (hM24 _ _ (hM21 _ _ (hle5 _ _ hb7))))))))))) rfl (by rfl) ⟨rfl, rfl⟩) ?_
  refine Ver.nextXY 37 (by kernel_rfl) rfl (by kernel_rfl) rfl ?_
  clear H; intro w H
  refine r_call cc46 (ringSame_spec ((((((((((((hf.p.mono hM17).mono hle9).mono hle7).mono hle5).mono hM21).mono hM24).mono hM30).mono hM31).mono hM38).mono hM41).mono hM48).mono hM51) (((((((((((hg.p.mono hle9).mono hle7).mono hle5).mono hM21).mono hM24).mono hM30).mono hM31).mono hM38).mono hM41).mono hM48).mono hM51)) H ?_
  clear H; rintro v58 M58 L58 w hM58 ⟨rfl, rfl, t58, rfl, ht58⟩ H
  refine ⟨_, _, hM58, H, ?_⟩
  refine Ver.nextXY 40 (by kernel_rfl) rfl (by kernel_rfl) rfl ?_
  clear H; intro w H
  refine r_call cc24 (pequal_spec ((((((((((((hf.p.mono hM17).mono hle9).mono hle7).mono hle5).mono hM21).mono hM24).mono hM30).mono hM31).mono hM38).mono hM41).mono hM48).mono hM51) (((((((((((hg.p.mono hle9).mono hle7).mono hle5).mono hM21).mono hM24).mono hM30).mono hM31).mono hM38).mono hM41).mono hM48).mono hM51)) H ?_
  clear H; rintro v61 M61 L61 w hM61 ⟨rfl, rfl, t61, rfl, ht61⟩ H
  refine ⟨_, _, hM61, H, ?_⟩
  refine Ver.readY (v := .bool _) 41 rfl (by kernel_rfl) rfl (fun M' L' w hM H => r_eqlBT tt4 rfl rfl (Bool.eq_iff_iff.2 (ht58.trans ht61.symm)) ⟨rfl, rfl⟩) ?_
  refine Ver.read (v := .bool _) 42 rfl (by kernel_rfl) (fun M' L' w hM H => r_pickB rfl rfl rfl ⟨rfl, rfl⟩) ?_
  refine Ver.read (v := .bool _) 43 rfl (by kernel_rfl) (fun M' L' w hM H => mvB rfl ⟨rfl, rfl⟩) ?_
  refine Ver.readY (v := .agg _) 44 rfl (by kernel_rfl) rfl (fun M' L' w hM H => ldA tt76 rfl (H.ro (hM _ _ (hM51 _ _ (hM48 _ _ (hM41 _ _ (hM38 _ _ (hM31 _ _ (hM30 _ _ (hM24 _ _ (hM21 _ _ (hle5 _ _ (hle7 _ _ hb9)))))))))))) rfl (by rfl) ⟨rfl, rfl⟩) ?_
  refine Ver.readY (v := .agg _) 45 rfl (by kernel_rfl) rfl (fun M' L' w hM H => ldA tt24 rfl (H.ro (hM _ _ (hM51 _ _ (hM48 _ _ (hM41 _ _ (hM38 _ _ (hM31 _ _ (hM30 _ _ (hM24 _ _ (hM21 _ _ hb5)))))))))) rfl (by rfl) ⟨rfl, rfl⟩) ?_
  refine Ver.readY (v := .agg _) 46 rfl (by kernel_rfl) rfl (fun M' L' w hM H => ldA tt24 rfl (H.ro (hM _ _ (hM51 _ _ (hM48 _ _ (hM41 _ _ (hM38 _ _ (hM31 _ _ (hM30 _ _ (hM24 _ _ (hM21 _ _ hb5)))))))))) rfl (by rfl) ⟨rfl, rfl⟩) ?_
  refine Ver.nextXY 47 (by kernel_rfl) rfl (by kernel_rfl) rfl ?_
  clear H; intro w H
  refine r_call cc46 (ringSameT ((((((((((((hf.p.mono hM17).mono hle9).mono hle7).mono hle5).mono hM21).mono hM24).mono hM30).mono hM31).mono hM38).mono hM41).mono hM48).mono hM51) ((((((((((((hf.p.mono hM17).mono hle9).mono hle7).mono hle5).mono hM21).mono hM24).mono hM30).mono hM31).mono hM38).mono hM41).mono hM48).mono hM51) rfl) H ?_
  clear H; rintro v68 M68 L68 w hM68 ⟨rfl, rfl, rfl⟩ H
  refine ⟨_, _, hM68, H, ?_⟩
  refine Ver.read (v := .bool _) 48 rfl (by kernel_rfl) (fun M' L' w hM H => r_pickB rfl rfl rfl ⟨rfl, rfl⟩) ?_
  refine Ver.read (v := .bool _) 49 rfl (by kernel_rfl) (fun M' L' w hM H => asB rfl ⟨rfl, rfl⟩) ?_
  refine Ver.finX (by kernel_rfl) ?_
  clear H; intro w H
  exact Goes.ret (ret1 (v := .bool _) rfl rfl rfl H.nil rfl)

end Go.Proofs.YtlcpdkckldlceaaGreatDoor
namespace Go.Proofs.YtlcpdkckldlceaaGreatDoor
open Go.Sx Go.Nat32 Go.Dec Go.PolyL Go.Lib Go.Proofs
attribute [local irreducible] pt sl itc itm
set_option maxRecDepth 100000
set_option linter.unusedVariables false
set_option linter.unusedSimpArgs false
set_option maxHeartbeats 1000000

theorem r_neqSF {P : Program} {ρ : Env} {w : World} {K : Value → World → Prop} {dst : Option Tmp} {ty : TypeId} {pos : String} {aft : Array Edge} {g : Option (Nat × Bool)} {t yt : TypeId} {x y : Operand} {a b : List UInt8} (hx : ρ.ev x = .string ⟨a.toArray⟩) (hy : ρ.ev y = .string ⟨b.toArray⟩) (hc : a = b) (h : K (.bool false) w) : OpRuns P ρ ⟨dst, .binOp .neq t x y yt, ty, pos, aft, g⟩ w K := by
  refine r_neqS hx hy ?_
  subst hc
  have : (!(a == a)) = false := by simp
  rw [this]; exact h
theorem rowF_lim {f : Nat → Nat → Nat} {k : Nat} (lf : ∀ a b, lim k (f a b)) (b : Int) (j : Nat) : lim k (rowF f b j) := by
  unfold rowF
  split
  · exact lf _ _
  · unfold Go.Nat32.lim; exact Nat.pow_pos (by decide)
theorem rowF_lt {f : Nat → Nat → Nat} {k : Nat} (lf : ∀ a b, f a b < 10 ^ k) (b : Int) (j : Nat) : rowF f b j < 10 ^ k := by
  unfold rowF
  split
  · exact lf _ _
  · exact Nat.pow_pos (by decide)

theorem coefficients_law {M : RO} (hT : TabM M) (hm : MaxM M) {va : Value} {ta : List (Nat × Nat × Nat)} {b : Int} (ha : ArgT M va ta) (hb : -9223372036854775808 ≤ b ∧ b ≤ 9223372036854775807) :
    Sp0 Tryz.prog 11 [va, .int .i64 b] M [] fun r _ _ => r = .bool true := by
  have ha' := ha
  obtain ⟨aa, ac, rfl, _⟩ := ha.shape
  refine Sp0.enter (n := 60) Tryz.func11 rfl Tryz.ntmps11 rfl ?_
  intro E hdr hE H
  subst hE
  refine Goes.seq (Goes.region ?_)
  refine GoL.stepS rfl rfl (asB rfl ?_)
  refine GoL.nil ?_
  refine Goes.seq (Goes.region ?_)
  refine GoL.stepS rfl rfl (mvL rfl ?_)
  refine GoL.stepS rfl rfl (r_call cc17 (made40_spec (most := 12) ha' (by decide)) H ?_); clear H; rintro v13 M13 L13 w hM13 ⟨rfl, p13, u13, f, rfl, hf⟩ H
  refine GoL.stepS rfl rfl (mvT rfl ?_)
  obtain ⟨q13, a13, n13, c13, rfl, rfl⟩ := hf.shapes
  refine GoL.stepS rfl rfl (r_extract rfl rfl ?_)
  refine GoL.stepS rfl rfl (r_extract rfl rfl ?_)
  refine GoL.stepS rfl rfl (r_alloc tt24 H ?_); clear H; intro b5 w hb5 H
  refine GoL.step0 rfl (stA tt24 rfl rfl H (by repeat constructor) rfl rfl (by rfl) ?_); clear H; intro w H
  refine GoL.stepS rfl rfl (asL rfl ?_)
  refine GoL.nil ?_
  refine Goes.seq (Goes.seq ?_)
  obtain ⟨K5, hb5, hle5, H⟩ := H.freezeX (i := 0) .head
  have lf := hf.lim
  have hfK := hf.mono hle5
  have hTK : TabM K5 := (hT.mono hM13).mono hle5
  have hmK : MaxM K5 := (hm.mono hM13).mono hle5
  refine Goes.region ?_
  refine GoL.stepS rfl rfl (asI rfl ?_)
  refine GoL.nil ?_
  refine Goes.block ?_
  refine Goes.loopS (4 :: 7 :: 8 :: 9 :: 10 :: 16 :: 17 :: 18 :: 19 :: 20 :: 21 :: 22 :: 23 :: 24 :: 25 :: 26 :: 27 :: 28 :: 29 :: 30 :: 31 :: 32 :: 33 :: 34 :: 35 :: 36 :: 37 :: 38 :: 39 :: 40 :: 41 :: 42 :: 43 :: 44 :: 45 :: 46 :: 47 :: []) (fun (q : Nat × RO) => [(7, .int .i64 ((q.1 : Int) - 1))]) (fun q w => q.1 ≤ 15 ∧ K5.le q.2 ∧ Hp E q.2 [] w) (fun q => 15 - q.1) (0, K5) ⟨rfl, trivial⟩ ⟨Nat.zero_le _, RO.le.refl _, H⟩ ?_
  clear H
  rintro ⟨i, M1⟩ f1 w ⟨hi, hM1, H⟩ again
  dsimp only at hi hM1 H
  refine Goes.seq (Goes.seq (Goes.region ?_))
  refine GoL.stepS rfl rfl (mvI rfl ?_)
  refine GoL.stepS rfl rfl (r_leq rfl rfl ?_)
  refine GoL.nil ?_
  refine Goes.cond rfl (fun hd => ?_) (fun hd => ?_)
  · have hi14 : i ≤ 14 := by have : (i : Int) - 1 ≤ 13 := by simpa using hd
                             omega
    refine Goes.skip (Goes.seq (Goes.block (Goes.seq (Goes.region ?_))))
    refine GoL.stepS rfl rfl (ldA tt24 rfl (H.ro (hM1 _ _ hb5)) rfl (by rfl) ?_)
    refine GoL.stepS rfl rfl (mvI rfl ?_)
    refine GoL.stepS rfl rfl (r_call cc49 (prow_spec (b := (i : Int) - 1) (hfK.p.mono hM1) (by first | omega | (dsimp only; omega)) (by first | omega | (dsimp only; omega))) H ?_); clear H; rintro v22 M22 L22 w hM22 ⟨rfl, a22, c22, vs22, rfl, hc22, hr22, hv22, hw22⟩ H
    refine GoL.stepS rfl rfl (mvL rfl ?_)
    refine GoL.stepS rfl rfl (mvI rfl ?_)
    refine GoL.stepS rfl rfl (r_call cc50 (rrow_spec (b := (i : Int) - 1) ((hfK.r.mono hM1).mono hM22) (by first | omega | (dsimp only; omega))) H ?_); clear H; rintro v25 M25 L25 w hM25 ⟨rfl, a25, c25, vs25, rfl, hc25, hr25, hv25, hw25⟩ H
    refine GoL.stepS rfl rfl (asL rfl ?_)
    refine GoL.stepS rfl rfl (asL rfl ?_)
    refine GoL.nil ?_
    refine Goes.seq (Goes.seq ?_)
    have hlen : (vs22.length : Int) = (vs25.length : Int) := by have := hw22.uniq hw25; omega
    refine Goes.region ?_
    refine GoL.stepS rfl rfl (mvL rfl ?_)
    refine GoL.stepS rfl rfl (r_lenSlice tt81 rfl ?_)
    refine GoL.stepS rfl rfl (mvL rfl ?_)
    refine GoL.stepS rfl rfl (r_lenSlice tt83 rfl ?_)
    refine GoL.stepS rfl rfl (r_neqF rfl rfl (by first | omega | (dsimp only; omega)) ?_)
    refine GoL.nil ?_
    refine Goes.condF rfl (rfl) ?_
    refine Goes.skip (Goes.seq (Goes.region ?_))
    refine GoL.stepS rfl rfl (asI rfl ?_)
    refine GoL.nil ?_
    refine Goes.block ?_
    refine Goes.loopS (4 :: 10 :: 31 :: 32 :: 33 :: 34 :: 35 :: 36 :: 37 :: 38 :: 39 :: 40 :: 41 :: 42 :: 43 :: 44 :: 45 :: 46 :: 47 :: []) (fun (q : Nat × RO) => [(10, .int .i64 (q.1 : Int))]) (fun q w => q.1 ≤ vs22.length ∧ M25.le q.2 ∧ Hp E q.2 [] w) (fun q => vs22.length - q.1) (0, M25) ⟨rfl, trivial⟩ ⟨Nat.zero_le _, RO.le.refl _, H⟩ ?_
    clear H
    rintro ⟨j, M2⟩ f2 w ⟨hj, hM2, H⟩ again2
    dsimp only at hj hM2 H
    refine Goes.seq (Goes.seq (Goes.region ?_))
    refine GoL.stepS rfl rfl (mvI rfl ?_)
    refine GoL.stepS rfl rfl (mvL rfl ?_)
    refine GoL.stepS rfl rfl (r_lenSlice tt81 rfl ?_)
    refine GoL.stepS rfl rfl (r_lss rfl rfl ?_)
    refine GoL.nil ?_
    refine Goes.cond rfl (fun hd2 => ?_) (fun hd2 => ?_)
    · have hjn : j < vs22.length := by have : (j : Int) < (vs22.length : Int) := by simpa using hd2
                                       omega
      have hjn2 : j < vs25.length := by omega
      obtain ⟨y, hy⟩ : ∃ y, vs22[j]? = some y := ⟨_, List.getElem?_eq_getElem hjn⟩
      obtain ⟨z, hz⟩ : ∃ z, vs25[j]? = some z := ⟨_, List.getElem?_eq_getElem hjn2⟩
      obtain ⟨rb, ro, rcs, re, rz, rfl, hMq, hcj⟩ := hr22.at hy
      obtain ⟨sb, so, scs, se, sz, rfl, hMr, hdj⟩ := hr25.at hz
      have hy' := hv22 j y hy
      have hz' := hv25 j z hz
      obtain ⟨ya, yn, yc, ey⟩ := hy'.shape
      obtain rfl : y = .slice ya yn yc := by simpa using ey
      obtain ⟨za, zn, zc, rfl⟩ := hz'.shape
      have hlb := hw22.high
      refine Goes.skip (Goes.seq (Goes.block (Goes.seq ?_)))
      refine Goes.regionDX mixed (by kernel_rfl) 12 H ?_
      refine Ver.read (v := .slice _ _ _) 0 rfl (by kernel_rfl) (fun M' L' w hM H => mvL rfl ⟨rfl, rfl⟩) ?_
      refine Ver.read (v := .int _ _) 1 rfl (by kernel_rfl) (fun M' L' w hM H => mvI rfl ⟨rfl, rfl⟩) ?_
      refine Ver.read (v := .pointer _) 2 rfl (by kernel_rfl) (fun M' L' w hM H => r_indexAddrN tt81 tt49 rfl rfl hjn ⟨rfl, rfl⟩) ?_
      refine Ver.read (v := (.agg #[.slice ya yn yc])) 3 rfl (by kernel_rfl) (fun M' L' w hM H => r_load tt49 rfl (H.ro (hM _ _ (hM2 _ _ (hM25 _ _ hMq)))) (rd_agg1 rfl (by rw [Nat.mul_one]; exact hcj)) ⟨rfl, rfl⟩) ?_
      refine Ver.read (v := .slice _ _ _) 5 rfl (by kernel_rfl) (fun M' L' w hM H => mvL rfl ⟨rfl, rfl⟩) ?_
      refine Ver.read (v := .int _ _) 6 rfl (by kernel_rfl) (fun M' L' w hM H => mvI rfl ⟨rfl, rfl⟩) ?_
      refine Ver.read (v := .pointer _) 7 rfl (by kernel_rfl) (fun M' L' w hM H => r_indexAddrN tt83 tt55 rfl rfl hjn2 ⟨rfl, rfl⟩) ?_
      refine Ver.read (v := .slice _ _ _) 8 rfl (by kernel_rfl) (fun M' L' w hM H => ldL tt55 rfl (H.ro (hM _ _ (hM2 _ _ hMr))) (by rw [Nat.mul_one]; exact hdj) ⟨rfl, rfl⟩) ?_
      refine Ver.nextX 4 (by kernel_rfl) rfl (by kernel_rfl) ?_
      clear H; intro w H
      refine r_call0 hdr cc27 (natString_spec (k := 2) ((((hTK.mono hM1).mono hM22).mono hM25).mono hM2) ((hy'.mono hM25).mono hM2) (rowF_lim lf _ _) (by first | omega | (dsimp only; omega))) H ?_
      clear H; rintro v41 M41 L41 w hM41 ⟨rfl, rfl⟩ H
      refine ⟨_, _, hM41, H, ?_⟩
      refine Ver.nextX 9 (by kernel_rfl) rfl (by kernel_rfl) ?_
      clear H; intro w H
      refine r_call cc28 (rtext_spec (k := 11) ((hz'.mono hM2).mono hM41) (rowF_lt hf.lt _ _) (by first | omega | (dsimp only; omega))) H ?_
      clear H; rintro v46 M46 L46 w hM46 ⟨rfl, rfl⟩ H
      refine ⟨_, _, hM46, H, ?_⟩
      refine Ver.read (v := .bool _) 10 rfl (by kernel_rfl) (fun M' L' w hM H => r_neqSF rfl rfl rfl ⟨rfl, rfl⟩) ?_
      refine Ver.finX (by kernel_rfl) ?_
      clear H; intro w H
      refine Goes.condF rfl (rfl) ?_
      refine Goes.skip (Goes.inBlock (Goes.region ?_))
      refine GoL.stepS rfl rfl (mvI rfl ?_)
      refine GoL.stepS rfl rfl (r_addR ((j + 1 : Nat) : Int) rfl rfl (by first | omega | (dsimp only; omega)) (by first | omega | (dsimp only; omega)) (by first | omega | (dsimp only; omega)) ?_)
      refine GoL.stepS rfl rfl (asI rfl ?_)
      refine GoL.nil ?_
      exact again2 (j + 1, M46) _ _ ⟨rfl, trivial⟩ (.of_strip (by kernel_rfl)) ⟨by first | omega | (dsimp only; omega), hM2.trans (hM41.trans hM46), H⟩ (by first | omega | (dsimp only; omega))
    · refine Goes.exit rfl (Goes.inBlock (Goes.region ?_))
      refine GoL.stepS rfl rfl (mvI rfl ?_)
      refine GoL.stepS rfl rfl (r_addR (((i + 1 : Nat) : Int) - 1) rfl rfl (by first | omega | (dsimp only; omega)) (by first | omega | (dsimp only; omega)) (by first | omega | (dsimp only; omega)) ?_)
      refine GoL.stepS rfl rfl (asI rfl ?_)
      refine GoL.nil ?_
      exact again (i + 1, M2) _ _ ⟨rfl, trivial⟩ (.of_strip (by kernel_rfl)) ⟨by first | omega | (dsimp only; omega), hM1.trans (hM22.trans (hM25.trans hM2)), H⟩ (by first | omega | (dsimp only; omega))
  · refine Goes.exit rfl (Goes.seq (Goes.region ?_))
    refine GoL.stepS rfl rfl (r_call0 hdr cc14 (known_spec (hTK.mono hM1) (hmK.mono hM1)) H ?_); clear H; rintro v48 M48 L48 w hM48 ⟨rfl, rfl⟩ H
    refine GoL.stepS rfl rfl (mvB rfl ?_)
    refine GoL.stepYS rfl rfl rfl (ldA tt24 rfl (H.ro (hM48 _ _ (hM1 _ _ hb5))) rfl (by rfl) ?_)
    refine GoL.stepYS rfl rfl rfl (mvI rfl ?_)
    refine GoL.stepYS rfl rfl rfl (r_call cc49 (prow_spec ((hfK.p.mono hM1).mono hM48) hb.1 hb.2) H ?_); clear H; rintro v52 M52 L52 w hM52 ⟨rfl, a52, c52, vs52, rfl, hc52, hr52, hv52, hw52⟩ H
    refine GoL.stepYS rfl rfl rfl (r_lenSlice tt81 rfl ?_)
    refine GoL.stepYS rfl rfl rfl (mvL rfl ?_)
    refine GoL.stepYS rfl rfl rfl (mvI rfl ?_)
    refine GoL.stepYS rfl rfl rfl (r_call cc50 (rrow_spec (((hfK.r.mono hM1).mono hM48).mono hM52) (by first | omega | (dsimp only; omega))) H ?_); clear H; rintro v56 M56 L56 w hM56 ⟨rfl, a56, c56, vs56, rfl, hc56, hr56, hv56, hw56⟩ H
    refine GoL.stepYS rfl rfl rfl (r_lenSlice tt83 rfl ?_)
    refine GoL.stepYS rfl rfl rfl (r_eqlT rfl rfl (by have := hw52.uniq hw56; omega) ?_)
    refine GoL.stepS rfl rfl (r_pickB rfl rfl rfl ?_)
    refine GoL.stepS rfl rfl (asB rfl ?_)
    refine GoL.nil ?_
    exact Goes.ret (ret1 (v := .bool _) rfl rfl rfl H.nil rfl)

end Go.Proofs.YtlcpdkckldlceaaGreatDoor
namespace Go.Proofs.YtlcpdkckldlceaaGreatDoor
open Go.Sx Go.ChangeShapes Go.WideShapes Go.Proofs Go.ChangeMaps
set_option maxRecDepth 100000
section
variable {H : Type} {enc : TypeId × Value → H} {W : World} {base : Nat} {v : Value} {d : DataW H} {ps : List MemPlace}

theorem i64_of (hval : Value.okWide Tryz.prog W .any base 3 v) (hd : DataW.Trod enc Tryz.prog W 0 (fun _ => true) true 3 v d ps) :
    ∃ n : Int, v = .int .i64 n ∧ -9223372036854775808 ≤ n ∧ n ≤ 9223372036854775807 := by
  obtain ⟨n, rfl, _, _, hw⟩ := open_int Tryz.underlying3 hval hd
  exact ⟨n, rfl, bounds_i64 hw⟩
theorem u64_of (hval : Value.okWide Tryz.prog W .any base 51 v) (hd : DataW.Trod enc Tryz.prog W 0 (fun _ => true) true 51 v d ps) :
    ∃ n : Nat, v = .int .u64 (n : Int) ∧ n < 18446744073709551616 := by
  obtain ⟨n, rfl, _, _, hw⟩ := open_int Tryz.underlying51 hval hd
  have := bounds_u64 hw
  exact ⟨n.toNat, by rw [Int.toNat_of_nonneg this.1], by omega⟩
theorem string_of (hval : Value.okWide Tryz.prog W .any base 9 v) (hd : DataW.Trod enc Tryz.prog W 0 (fun _ => true) true 9 v d ps) :
    ∃ s : List UInt8, v = .string ⟨s.toArray⟩ ∧ s.length ≤ maxLen := by
  obtain ⟨s, rfl, _, _, hs⟩ := open_string Tryz.underlying9 hval hd
  refine ⟨s.data.toList, rfl, ?_⟩
  rw [Array.length_toList]
  exact hs
theorem cells3 : Tryz.prog.cellsOf 3 = 1 := by kernel_rfl
theorem cells46 : Tryz.prog.cellsOf 46 = 2 := by kernel_rfl
theorem cells62 : Tryz.prog.cellsOf 62 = 2 := by kernel_rfl
theorem pair_of {t e : TypeId} {k : IntKind} (ht : Tryz.prog.underlying t = some (.array 2 e)) (he : Tryz.prog.underlying e = some (.int k)) (hct : Tryz.prog.cellsOf t = 2) (hce : Tryz.prog.cellsOf e = 1)
    (hval : Value.okWide Tryz.prog W .any base t v) (hd : DataW.Trod enc Tryz.prog W 0 (fun _ => true) true t v d ps) :
    ∃ n m : Int, v = .agg #[.int k n, .int k m] ∧ (Lit.int k n).wf = true ∧ (Lit.int k m).wf = true := by
  unfold Value.okWide at hval
  rw [ht] at hval
  obtain ⟨cs, rfl, hsz, _⟩ := hval
  rw [hct] at hsz
  obtain ⟨fuel, hf⟩ := hd
  obtain ⟨xs, m, _, _, _, hlen, hx⟩ := DataW.trod_array ht hf
  obtain ⟨a, b, rfl⟩ : ∃ a b, cs = #[a, b] := by
    obtain ⟨l⟩ := cs
    match l, hsz with
    | [a, b], _ => exact ⟨a, b, rfl⟩
  obtain ⟨x0, x1, rfl⟩ : ∃ a b, xs = [a, b] := by
    match xs, hlen with
    | [a, b], _ => exact ⟨a, b, rfl⟩
  have h0 := hx 0 (by decide)
  have h1 := hx 1 (by decide)
  rw [hce] at h0 h1
  obtain ⟨n0, e0, w0⟩ := int_cell he rfl h0
  obtain ⟨n1, e1, w1⟩ := int_cell he rfl h1
  obtain rfl : a = .int k n0 := by simpa [Value.cells] using e0
  obtain rfl : b = .int k n1 := by simpa [Value.cells] using e1
  exact ⟨n0, n1, rfl, w0, w1⟩
theorem pairI_of (hval : Value.okWide Tryz.prog W .any base 62 v) (hd : DataW.Trod enc Tryz.prog W 0 (fun _ => true) true 62 v d ps) :
    ∃ n m : Int, v = .agg #[.int .i64 n, .int .i64 m] ∧ (-9223372036854775808 ≤ n ∧ n ≤ 9223372036854775807) ∧ (-9223372036854775808 ≤ m ∧ m ≤ 9223372036854775807) := by
  obtain ⟨n, m, h, h1, h2⟩ := pair_of Tryz.underlying62 Tryz.underlying3 cells62 cells3 hval hd
  exact ⟨n, m, h, bounds_i64 h1, bounds_i64 h2⟩
theorem pairU_of (hval : Value.okWide Tryz.prog W .any base 46 v) (hd : DataW.Trod enc Tryz.prog W 0 (fun _ => true) true 46 v d ps) :
    ∃ n m : Nat, v = .agg #[.int .u16 (n : Int), .int .u16 (m : Int)] ∧ n < 65536 ∧ m < 65536 := by
  obtain ⟨n, m, h, h1, h2⟩ := pair_of Tryz.underlying46 Tryz.underlying45 cells46 cells45 hval hd
  have b1 := bounds_u16 h1
  have b2 := bounds_u16 h2
  exact ⟨n.toNat, m.toNat, by rw [Int.toNat_of_nonneg b1.1, Int.toNat_of_nonneg b2.1]; exact h, by omega, by omega⟩
end
end Go.Proofs.YtlcpdkckldlceaaGreatDoor
namespace Go.Sx
set_option maxRecDepth 100000
set_option linter.unusedVariables false
set_option linter.unusedSimpArgs false
theorem r_neqBF {P : Program} {ρ : Env} {w : World} {K : Value → World → Prop} {dst : Option Tmp} {ty : TypeId} {pos : String} {aft : Array Edge} {g : Option (Nat × Bool)} {t yt : TypeId} {x y : Operand} {a b : Bool} {n by_ : Nat} {z : Value} (ht : tinfo P t = some (.bool, n, by_, z)) (hx : ρ.ev x = .bool a) (hy : ρ.ev y = .bool b) (hc : a = b) (h : K (.bool false) w) : OpRuns P ρ ⟨dst, .binOp .neq t x y yt, ty, pos, aft, g⟩ w K := by
  subst hc
  refine .ofV (s := do eqGuard .neq t x y (ρ.ev x) (ρ.ev y); Go.binOp .neq t (ρ.ev x) (ρ.ev y)) rfl ?_
  rw [hx, hy]
  refine Runs.bind ?_
  have : Runs P (eqGuard .neq t x y (.bool a) (.bool a)) w fun _ w' => w' = w := by unfold eqGuard; exact rfl
  refine this.mono ?_
  rintro _ w' rfl
  have e : Go.binOp .neq t (.bool a) (.bool a) = (do let r ← Op.equal t (.bool a) (.bool a); pure (.bool (!r))) := rfl
  rw [e]
  refine Runs.bind ?_
  unfold Op.equal Op.maxDepth Op.equalIn
  refine .bind (.underlying ht ?_)
  cases a <;> exact h
end Go.Sx
namespace Go.Proofs.YtlcpdkckldlceaaGreatDoor
open Go.Sx Go.Nat32 Go.Dec Go.PolyL Go.Lib Go.Proofs
attribute [local irreducible] pt sl itc itm
set_option maxRecDepth 100000
set_option maxHeartbeats 1000000

def InBox (a b : Int) : Prop := 0 ≤ a ∧ a ≤ 2048 ∧ 0 ≤ b ∧ b ≤ 2048
theorem monomial_any {M : RO} {v : Value} {x k : Nat} {a b : Int} (hv : NatV M v x) (lx : lim k x) (hk : k ≤ 1000000) :
    Sp Tryz.prog 35 [v, .int .i64 a, .int .i64 b] M [] fun r M' L' => L' = [] ∧ ∃ q c, r = .tuple #[.agg #[.map q], .int .i64 c] ∧ ((InBox a b ∧ c = 0 ∧ PolyV M' (.agg #[.map q]) (monoF x a.toNat b.toNat)) ∨ (¬ InBox a b ∧ c = 2 ∧ q = none)) := by
  by_cases h : InBox a b
  · obtain ⟨h1, h2, h3, h4⟩ := h
    have := monomial_ok (a := a.toNat) (b := b.toNat) hv (by omega) (by omega) lx hk
    rw [Int.toNat_of_nonneg h1, Int.toNat_of_nonneg h3] at this
    refine this.mono ?_
    rintro r M' L' _ ⟨rfl, q, rfl, hq⟩
    exact ⟨rfl, q, 0, rfl, .inl ⟨⟨h1, h2, h3, h4⟩, rfl, hq⟩⟩
  · refine (monomial_bad hv h).mono ?_
    rintro r M' L' _ ⟨rfl, rfl, rfl⟩
    exact ⟨rfl, none, 2, rfl, .inr ⟨h, rfl, rfl⟩⟩

theorem ite_lim {f : Nat → Nat → Nat} {k : Nat} (lf : ∀ a b, lim k (f a b)) (c : Prop) [Decidable c] (a b : Nat) : lim k (if c then f a b else 0) := by
  split
  · exact lf _ _
  · unfold Go.Nat32.lim; exact Nat.pow_pos (by decide)
theorem ite_lt {f : Nat → Nat → Nat} {k : Nat} (lf : ∀ a b, f a b < 10 ^ k) (c : Prop) [Decidable c] (a b : Nat) : (if c then f a b else 0) < 10 ^ k := by
  split
  · exact lf _ _
  · exact Nat.pow_pos (by decide)
theorem RefPm.count {M : RO} {a : Option Addr} {n c m : Nat} {f : Nat → Nat → Nat} (h : RefPm M (.slice a n c) f m) : (sumL box fun k => if f k.1 k.2 = 0 then 0 else 1) = n := by
  obtain ⟨a', c', l, he, _, _, hr, _⟩ := h
  have e2 := (Value.slice.inj he).2.1
  subst e2
  have hn : (l.map (·.2)).Nodup := (List.pairwise_map.2 hr.asc).imp fun {p q} hk e => by
    subst e
    unfold kl at hk
    omega
  have e := sum_keys (l := l) (key := fun t : T3 => t.2) (F := fun k => if f k.1 k.2 = 0 then 0 else 1) hn (fun x hx => mem_box.2 (hr.box x hx)) (fun k hk => by
    have h0 : f k.1 k.2 ≠ 0 := fun e => hk (if_pos e)
    obtain ⟨t, ht, e⟩ := hr.all _ _ h0
    exact ⟨t, ht, e⟩)
  exact e.symm.trans ((sumL_congr (G := fun _ => 1) fun x hx => if_neg (hr.val x hx).1).trans (sumL_one l))
theorem IsDeg.uniq {f p : Nat → Nat → Nat} {x y : Int} (h : IsDeg f p x) (h' : IsDeg f p y) : x = y := by
  have h1 := h.low
  have h2 := h'.low
  rcases h.at_ with e | ⟨a, b, ha, e⟩
  · rcases h'.at_ with e' | ⟨a', b', ha', e'⟩
    · omega
    · have := h.ge a' b' ha'; omega
  · rcases h'.at_ with e' | ⟨a', b', ha', e'⟩
    · have := h'.ge a b ha; omega
    · have := h'.ge a b ha; have := h.ge a' b' ha'; omega

theorem terms_law {M : RO} (hT : TabM M) (hm : MaxM M) {va : Value} {ta : List (Nat × Nat × Nat)} {n : Nat} {a b : Int} (ha : ArgT M va ta) (hn : n < 18446744073709551616) (hab : (-9223372036854775808 ≤ a ∧ a ≤ 9223372036854775807) ∧ (-9223372036854775808 ≤ b ∧ b ≤ 9223372036854775807)) :
    Sp0 Tryz.prog 8 [va, .int .u64 (n : Int), .agg #[.int .i64 a, .int .i64 b]] M [] fun r _ _ => r = .bool true := by
  have ha' := ha
  obtain ⟨aa, ac, rfl, hrow⟩ := ha.shape
  refine Sp0.enter (n := 165) Tryz.func8 rfl Tryz.ntmps8 rfl ?_
  intro E hdr hE H
  subst hE
  refine Goes.seq (Goes.region ?_)
  refine GoL.stepS rfl rfl (bxA rfl H ?_); clear H; intro b5 w hb5 H
  refine GoL.stepS rfl rfl (asB rfl ?_)
  refine GoL.nil ?_
  refine Goes.seq ?_
  obtain ⟨K5, hb5, hle5, H⟩ := H.freezeX (i := 0) .head
  refine Goes.regionD0 mixed (by kernel_rfl) 7 H ?_
  refine Ver.read (v := .pointer _) 0 rfl (by kernel_rfl) (fun M' L' w hM H => r_indexAddrA (j := 0) tt62 tt3 rfl rfl (by decide) ⟨rfl, rfl⟩) ?_
  refine Ver.read (v := .int _ _) 1 rfl (by kernel_rfl) (fun M' L' w hM H => ldI tt3 rfl (H.ro (hM _ _ hb5)) rfl ⟨rfl, rfl⟩) ?_
  refine Ver.read (v := .pointer _) 2 rfl (by kernel_rfl) (fun M' L' w hM H => r_indexAddrA (j := 1) tt62 tt3 rfl rfl (by decide) ⟨rfl, rfl⟩) ?_
  refine Ver.read (v := .int _ _) 3 rfl (by kernel_rfl) (fun M' L' w hM H => ldI tt3 rfl (H.ro (hM _ _ hb5)) rfl ⟨rfl, rfl⟩) ?_
  refine Ver.read (v := .int _ _) 4 rfl (by kernel_rfl) (fun M' L' w hM H => asI rfl ⟨rfl, rfl⟩) ?_
  refine Ver.read (v := .int _ _) 5 rfl (by kernel_rfl) (fun M' L' w hM H => asI rfl ⟨rfl, rfl⟩) ?_
  refine Ver.fin0 (by kernel_rfl) ?_
  clear H; intro w H
  refine Goes.seq (Goes.region ?_)
  refine GoL.stepS rfl rfl (mvI rfl ?_)
  refine GoL.stepS rfl rfl (r_call cc25 (fromUint64N (x := n) hn) H ?_); clear H; rintro v27 M27 L27 w hM27 ⟨rfl, h27⟩ H
  obtain ⟨va27, vn27, vc27, rfl⟩ := h27.shape
  refine GoL.stepS rfl rfl (mvI rfl ?_)
  refine GoL.stepS rfl rfl (mvI rfl ?_)
  refine GoL.stepS rfl rfl (r_call cc35 (monomial_any (k := 2) h27 (show lim 2 n by unfold Go.Nat32.lim; omega) (by first | omega | (dsimp only; omega))) H ?_); clear H; rintro v30 M30 L30 w hM30 ⟨rfl, q30, c30, rfl, h30⟩ H
  refine GoL.stepS rfl rfl (mvT rfl ?_)
  refine GoL.stepS rfl rfl (r_extract rfl rfl ?_)
  refine GoL.stepS rfl rfl (r_extract rfl rfl ?_)
  refine GoL.stepS rfl rfl (r_alloc tt24 H ?_); clear H; intro b9 w hb9 H
  refine GoL.step0 rfl (stA tt24 rfl rfl H (by repeat constructor) rfl rfl (by rfl) ?_); clear H; intro w H
  refine GoL.stepS rfl rfl (asI rfl ?_)
  refine GoL.nil ?_
  refine Goes.seq ?_
  obtain ⟨K9, hb9, hle9, H⟩ := H.freezeX (i := 0) .head
  have gT : TabM K9 := (((hT.mono hle5).mono hM27).mono hM30).mono hle9
  have gm : MaxM K9 := (((hm.mono hle5).mono hM27).mono hM30).mono hle9
  have gA := (((ha'.mono hle5).mono hM27).mono hM30).mono hle9
  refine Goes.cutT [11, 33, 34, 35, 36, 37, 38, 39, 40, 41, 42, 43, 44, 45, 46] [] (fun (ok : Bool) => [(11, .bool ok)]) (fun ok w => (ok = true ↔ InBox a b) ∧ Hp E K9 [] w) trivial ?aft ?cut
  case cut =>
    intro f0 meet
    by_cases h1 : 0 ≤ a
    · by_cases h2 : a ≤ 2048
      · by_cases h3 : 0 ≤ b
        · by_cases h4 : b ≤ 2048
          · refine Goes.region ?_
            refine GoL.stepS rfl rfl (mvI rfl ?_)
            refine GoL.stepS rfl rfl (r_geqT rfl rfl h1 ?_)
            refine GoL.stepS rfl rfl (mvB rfl ?_)
            refine GoL.stepYS rfl rfl rfl (mvI rfl ?_)
            refine GoL.stepYS rfl rfl rfl (r_leqT rfl rfl h2 ?_)
            refine GoL.stepS rfl rfl (r_pickT (v := .bool true) rfl rfl ?_)
            refine GoL.stepS rfl rfl (mvB rfl ?_)
            refine GoL.stepYS rfl rfl rfl (mvI rfl ?_)
            refine GoL.stepYS rfl rfl rfl (r_geqT rfl rfl h3 ?_)
            refine GoL.stepS rfl rfl (r_pickT (v := .bool true) rfl rfl ?_)
            refine GoL.stepS rfl rfl (mvB rfl ?_)
            refine GoL.stepYS rfl rfl rfl (mvI rfl ?_)
            refine GoL.stepYS rfl rfl rfl (r_leqT rfl rfl h4 ?_)
            refine GoL.stepS rfl rfl (r_pickT (v := .bool true) rfl rfl ?_)
            refine GoL.stepS rfl rfl (asB rfl ?_)
            refine GoL.nil ?_
            exact meet true _ _ ⟨rfl, trivial⟩ (.of_strip (by kernel_rfl)) ⟨by simp [InBox, h1, h2, h3, h4], H⟩
          · refine Goes.region ?_
            refine GoL.stepS rfl rfl (mvI rfl ?_)
            refine GoL.stepS rfl rfl (r_geqT rfl rfl h1 ?_)
            refine GoL.stepS rfl rfl (mvB rfl ?_)
            refine GoL.stepYS rfl rfl rfl (mvI rfl ?_)
            refine GoL.stepYS rfl rfl rfl (r_leqT rfl rfl h2 ?_)
            refine GoL.stepS rfl rfl (r_pickT (v := .bool true) rfl rfl ?_)
            refine GoL.stepS rfl rfl (mvB rfl ?_)
            refine GoL.stepYS rfl rfl rfl (mvI rfl ?_)
            refine GoL.stepYS rfl rfl rfl (r_geqT rfl rfl h3 ?_)
            refine GoL.stepS rfl rfl (r_pickT (v := .bool true) rfl rfl ?_)
            refine GoL.stepS rfl rfl (mvB rfl ?_)
            refine GoL.stepYS rfl rfl rfl (mvI rfl ?_)
            refine GoL.stepYS rfl rfl rfl (r_leqF rfl rfl h4 ?_)
            refine GoL.stepS rfl rfl (r_pickT (v := .bool false) rfl rfl ?_)
            refine GoL.stepS rfl rfl (asB rfl ?_)
            refine GoL.nil ?_
            exact meet false _ _ ⟨rfl, trivial⟩ (.of_strip (by kernel_rfl)) ⟨by simp [InBox, h4], H⟩
        · refine Goes.region ?_
          refine GoL.stepS rfl rfl (mvI rfl ?_)
          refine GoL.stepS rfl rfl (r_geqT rfl rfl h1 ?_)
          refine GoL.stepS rfl rfl (mvB rfl ?_)
          refine GoL.stepYS rfl rfl rfl (mvI rfl ?_)
          refine GoL.stepYS rfl rfl rfl (r_leqT rfl rfl h2 ?_)
          refine GoL.stepS rfl rfl (r_pickT (v := .bool true) rfl rfl ?_)
          refine GoL.stepS rfl rfl (mvB rfl ?_)
          refine GoL.stepYS rfl rfl rfl (mvI rfl ?_)
          refine GoL.stepYS rfl rfl rfl (r_geqF rfl rfl h3 ?_)
          refine GoL.stepS rfl rfl (r_pickT (v := .bool false) rfl rfl ?_)
          refine GoL.stepS rfl rfl (mvB rfl ?_)
          refine GoL.stepNS rfl rfl rfl ?_
          refine GoL.stepNS rfl rfl rfl ?_
          refine GoL.stepS rfl rfl (r_pickF (v := .bool false) rfl rfl ?_)
          refine GoL.stepS rfl rfl (asB rfl ?_)
          refine GoL.nil ?_
          exact meet false _ _ ⟨rfl, trivial⟩ (.of_strip (by kernel_rfl)) ⟨by simp [InBox, h3], H⟩
      · refine Goes.region ?_
        refine GoL.stepS rfl rfl (mvI rfl ?_)
        refine GoL.stepS rfl rfl (r_geqT rfl rfl h1 ?_)
        refine GoL.stepS rfl rfl (mvB rfl ?_)
        refine GoL.stepYS rfl rfl rfl (mvI rfl ?_)
        refine GoL.stepYS rfl rfl rfl (r_leqF rfl rfl h2 ?_)
        refine GoL.stepS rfl rfl (r_pickT (v := .bool false) rfl rfl ?_)
        refine GoL.stepS rfl rfl (mvB rfl ?_)
        refine GoL.stepNS rfl rfl rfl ?_
        refine GoL.stepNS rfl rfl rfl ?_
        refine GoL.stepS rfl rfl (r_pickF (v := .bool false) rfl rfl ?_)
        refine GoL.stepS rfl rfl (mvB rfl ?_)
        refine GoL.stepNS rfl rfl rfl ?_
        refine GoL.stepNS rfl rfl rfl ?_
        refine GoL.stepS rfl rfl (r_pickF (v := .bool false) rfl rfl ?_)
        refine GoL.stepS rfl rfl (asB rfl ?_)
        refine GoL.nil ?_
        exact meet false _ _ ⟨rfl, trivial⟩ (.of_strip (by kernel_rfl)) ⟨by simp [InBox, h2], H⟩
    · refine Goes.region ?_
      refine GoL.stepS rfl rfl (mvI rfl ?_)
      refine GoL.stepS rfl rfl (r_geqF rfl rfl h1 ?_)
      refine GoL.stepS rfl rfl (mvB rfl ?_)
      refine GoL.stepNS rfl rfl rfl ?_
      refine GoL.stepNS rfl rfl rfl ?_
      refine GoL.stepS rfl rfl (r_pickF (v := .bool false) rfl rfl ?_)
      refine GoL.stepS rfl rfl (mvB rfl ?_)
      refine GoL.stepNS rfl rfl rfl ?_
      refine GoL.stepNS rfl rfl rfl ?_
      refine GoL.stepS rfl rfl (r_pickF (v := .bool false) rfl rfl ?_)
      refine GoL.stepS rfl rfl (mvB rfl ?_)
      refine GoL.stepNS rfl rfl rfl ?_
      refine GoL.stepNS rfl rfl rfl ?_
      refine GoL.stepS rfl rfl (r_pickF (v := .bool false) rfl rfl ?_)
      refine GoL.stepS rfl rfl (asB rfl ?_)
      refine GoL.nil ?_
      exact meet false _ _ ⟨rfl, trivial⟩ (.of_strip (by kernel_rfl)) ⟨by simp [InBox, h1], H⟩
  case aft =>
    clear H
    rintro ok f1 w ⟨hok, HH⟩
    rcases h30 with ⟨hO, rfl, h30⟩ | ⟨hO, rfl, rfl⟩
    · obtain rfl : ok = true := hok.2 hO
      obtain ⟨hO1, hO2, hO3, hO4⟩ := hO
      obtain ⟨a', rfl⟩ : ∃ m : Nat, a = m := ⟨a.toNat, by omega⟩
      obtain ⟨b', rfl⟩ : ∃ m : Nat, b = m := ⟨b.toNat, by omega⟩
      rw [Int.toNat_natCast, Int.toNat_natCast] at h30
      have mlt : ∀ c d, monoF n a' b' c d < 10 ^ 20 := fun c d => by
        have e20 : (10 : Nat) ^ 20 = 100000000000000000000 := rfl
        rw [monoF_at, e20]; split <;> omega
      have H := HH
      clear HH
      refine Goes.seq (Goes.seq ?_)
      refine Goes.regionDX mixed (by kernel_rfl) 36 H ?_
      refine Ver.nextX 0 (by kernel_rfl) rfl (by kernel_rfl) ?_
      clear H; intro w H
      refine r_call0 hdr cc14 (known_spec gT gm) H ?_
      clear H; rintro v47 M47 L47 w hM47 ⟨rfl, rfl⟩ H
      refine ⟨_, _, hM47, H, ?_⟩
      refine Ver.read (v := .bool _) 1 rfl (by kernel_rfl) (fun M' L' w hM H => r_not rfl ⟨rfl, rfl⟩) ?_
      refine Ver.read (v := .bool _) 2 rfl (by kernel_rfl) (fun M' L' w hM H => mvB rfl ⟨rfl, rfl⟩) ?_
      refine Ver.readY (v := .int _ _) 3 rfl (by kernel_rfl) rfl (fun M' L' w hM H => mvI rfl ⟨rfl, rfl⟩) ?_
      refine Ver.readY (v := .bool _) 4 rfl (by kernel_rfl) rfl (fun M' L' w hM H => r_eqlT rfl rfl rfl ⟨rfl, rfl⟩) ?_
      refine Ver.readY (v := .bool _) 5 rfl (by kernel_rfl) rfl (fun M' L' w hM H => mvB rfl ⟨rfl, rfl⟩) ?_
      refine Ver.readY (v := .bool _) 6 rfl (by kernel_rfl) rfl (fun M' L' w hM H => r_neqBF tt4 rfl rfl rfl ⟨rfl, rfl⟩) ?_
      refine Ver.read (v := .bool _) 7 rfl (by kernel_rfl) (fun M' L' w hM H => r_pickF (v := .bool false) rfl rfl ⟨rfl, rfl⟩) ?_
      refine Ver.read (v := .bool _) 8 rfl (by kernel_rfl) (fun M' L' w hM H => mvB rfl ⟨rfl, rfl⟩) ?_
      refine Ver.readY (v := .bool _) 9 rfl (by kernel_rfl) rfl (fun M' L' w hM H => mvB rfl ⟨rfl, rfl⟩) ?_
      refine Ver.readY (v := .bool _) 10 rfl (by kernel_rfl) rfl (fun M' L' w hM H => r_not rfl ⟨rfl, rfl⟩) ?_
      refine Ver.readY (v := .bool _) 11 rfl (by kernel_rfl) rfl (fun M' L' w hM H => mvB rfl ⟨rfl, rfl⟩) ?_
      refine Ver.readN 12 rfl (by kernel_rfl) (by intro e; cases e) ?_
      refine Ver.readN 13 rfl (by kernel_rfl) (by intro e; cases e) ?_
      refine Ver.readN 14 rfl (by kernel_rfl) (by intro e; cases e) ?_
      refine Ver.readN 15 rfl (by kernel_rfl) (by intro e; cases e) ?_
      refine Ver.readN 16 rfl (by kernel_rfl) (by intro e; cases e) ?_
      refine Ver.readN 17 rfl (by kernel_rfl) (by intro e; cases e) ?_
      refine Ver.readN 18 rfl (by kernel_rfl) (by intro e; cases e) ?_
      refine Ver.readN 19 rfl (by kernel_rfl) (by intro e; cases e) ?_
      refine Ver.readY (v := .bool _) 20 rfl (by kernel_rfl) rfl (fun M' L' w hM H => r_pickF (v := .bool false) rfl rfl ⟨rfl, rfl⟩) ?_
      refine Ver.read (v := .bool _) 21 rfl (by kernel_rfl) (fun M' L' w hM H => r_pickF (v := .bool false) rfl rfl ⟨rfl, rfl⟩) ?_
      refine Ver.read (v := .bool _) 22 rfl (by kernel_rfl) (fun M' L' w hM H => mvB rfl ⟨rfl, rfl⟩) ?_
      refine Ver.readY (v := .bool _) 23 rfl (by kernel_rfl) rfl (fun M' L' w hM H => mvB rfl ⟨rfl, rfl⟩) ?_
      refine Ver.readY (v := .bool _) 24 rfl (by kernel_rfl) rfl (fun M' L' w hM H => mvB rfl ⟨rfl, rfl⟩) ?_
      refine Ver.readY (v := .agg _) 25 rfl (by kernel_rfl) rfl (fun M' L' w hM H => ldA tt24 rfl (H.ro (hM _ _ (hM47 _ _ hb9))) rfl (by rfl) ⟨rfl, rfl⟩) ?_
      refine Ver.readY (v := .int _ _) 26 rfl (by kernel_rfl) rfl (fun M' L' w hM H => mvI rfl ⟨rfl, rfl⟩) ?_
      refine Ver.readY (v := .int _ _) 28 rfl (by kernel_rfl) rfl (fun M' L' w hM H => mvI rfl ⟨rfl, rfl⟩) ?_
      refine Ver.readY (v := .int _ _) 29 rfl (by kernel_rfl) rfl (fun M' L' w hM H => mvI rfl ⟨rfl, rfl⟩) ?_
      refine Ver.nextXY 27 (by kernel_rfl) rfl (by kernel_rfl) rfl ?_
      clear H; intro w H
      refine r_call cc30 (rof_spec (x := n) hn) H ?_
      clear H; rintro v74 M74 L74 w hM74 ⟨rfl, h74⟩ H
      refine ⟨_, _, hM74, H, ?_⟩
      refine Ver.nextXY 30 (by kernel_rfl) rfl (by kernel_rfl) rfl ?_
      clear H; intro w H
      refine r_call cc36 (rof40_spec (a := a') (b := b') h74 (by first | omega | (dsimp only; omega)) (by first | omega | (dsimp only; omega))) H ?_
      clear H; rintro v77 M77 L77 w hM77 ⟨rfl, h77⟩ H
      refine ⟨_, _, hM77, H, ?_⟩
      refine Ver.nextXY 31 (by kernel_rfl) rfl (by kernel_rfl) rfl ?_
      clear H; intro w H
      refine r_call0 hdr cc15 (alike_spec (((gT.mono hM47).mono hM74).mono hM77) ((((h30.mono hle9).mono hM47).mono hM74).mono hM77) h77 (k := 20) (by first | omega | (dsimp only; omega)) mlt (by first | omega | (dsimp only; omega))) H ?_
      clear H; rintro v78 M78 L78 w hM78 ⟨rfl, rfl⟩ H
      refine ⟨_, _, hM78, H, ?_⟩
      refine Ver.readY (v := .bool _) 32 rfl (by kernel_rfl) rfl (fun M' L' w hM H => r_not rfl ⟨rfl, rfl⟩) ?_
      refine Ver.readY (v := .bool _) 33 rfl (by kernel_rfl) rfl (fun M' L' w hM H => r_pickT (v := .bool false) rfl rfl ⟨rfl, rfl⟩) ?_
      refine Ver.read (v := .bool _) 34 rfl (by kernel_rfl) (fun M' L' w hM H => r_pickF (v := .bool false) rfl rfl ⟨rfl, rfl⟩) ?_
      refine Ver.finX (by kernel_rfl) ?_
      clear H; intro w H
      refine Goes.condF rfl (rfl) ?_
      have gB := (((gA.mono hM47).mono hM74).mono hM77).mono hM78
      have gTB := (((gT.mono hM47).mono hM74).mono hM77).mono hM78
      refine Goes.skip (Goes.seq (Goes.region ?_))
      refine GoL.stepS rfl rfl (mvL rfl ?_)
      refine GoL.stepS rfl rfl (r_call cc17 (made40_spec (most := 2048) gB (by decide)) H ?_); clear H; rintro v84 M84 L84 w hM84 ⟨rfl, p84, u84, f, rfl, hf⟩ H
      refine GoL.stepS rfl rfl (mvT rfl ?_)
      obtain ⟨q84, a84, n84, c84, rfl, rfl⟩ := hf.shapes
      refine GoL.stepS rfl rfl (r_extract rfl rfl ?_)
      refine GoL.stepS rfl rfl (r_extract rfl rfl ?_)
      refine GoL.stepS rfl rfl (r_alloc tt24 H ?_); clear H; intro b12 w hb12 H
      refine GoL.step0 rfl (stA tt24 rfl rfl H (by repeat constructor) rfl rfl (by rfl) ?_); clear H; intro w H
      refine GoL.stepS rfl rfl (asL rfl ?_)
      refine GoL.nil ?_
      refine Goes.seq ?_
      obtain ⟨K12, hb12, hle12, H⟩ := H.freezeX (i := 0) .head
      have hfK := hf.mono hle12
      have lf := hf.lim
      have hT12 : TabM K12 := (gTB.mono hM84).mono hle12
      have hA12 := (gB.mono hM84).mono hle12
      refine Goes.region ?_
      refine GoL.stepS rfl rfl (ldA tt24 rfl (H.ro hb12) rfl (by rfl) ?_)
      refine GoL.stepS rfl rfl (r_call cc37 (degree_spec hfK.p) H ?_); clear H; rintro v89 M89 L89 w hM89 ⟨rfl, rfl, dx, dy, rfl, hdx, hdy⟩ H
      refine GoL.stepS rfl rfl (mvT rfl ?_)
      refine GoL.stepS rfl rfl (r_extract rfl rfl ?_)
      refine GoL.stepS rfl rfl (r_extract rfl rfl ?_)
      refine GoL.stepS rfl rfl (asI rfl ?_)
      refine GoL.stepS rfl rfl (asI rfl ?_)
      refine GoL.nil ?_
      refine Goes.seq (Goes.region ?_)
      refine GoL.stepS rfl rfl (mvL rfl ?_)
      refine GoL.stepS rfl rfl (r_call cc38 (rdeg_spec hfK.r (by first | omega | (dsimp only; omega))) H ?_); clear H; rintro v94 M94 L94 w hM94 ⟨rfl, rfl, ex, ey, rfl, hex, hey⟩ H
      refine GoL.stepS rfl rfl (mvT rfl ?_)
      refine GoL.stepS rfl rfl (r_extract rfl rfl ?_)
      refine GoL.stepS rfl rfl (r_extract rfl rfl ?_)
      refine GoL.stepS rfl rfl (asI rfl ?_)
      refine GoL.stepS rfl rfl (asI rfl ?_)
      refine GoL.nil ?_
      refine Goes.seq (Goes.seq ?_)
      have edx := hdx.uniq hex
      have edy := hdy.uniq hey
      refine Goes.region ?_
      refine GoL.stepS rfl rfl (asI rfl ?_)
      refine GoL.nil ?_
      refine Goes.block ?_
      refine Goes.loopS (6 :: 18 :: 19 :: 20 :: 97 :: 98 :: 99 :: 100 :: 101 :: 102 :: 103 :: 104 :: 105 :: 106 :: 107 :: 108 :: 109 :: 110 :: 111 :: 112 :: 113 :: 114 :: 115 :: 116 :: 117 :: 118 :: 119 :: 120 :: 121 :: 122 :: 123 :: 124 :: 125 :: 126 :: 127 :: 128 :: 129 :: 130 :: 131 :: []) (fun (q : Nat × RO) => [(18, .int .i64 (q.1 : Int))]) (fun q w => q.1 ≤ 8 ∧ M94.le q.2 ∧ Hp E q.2 [] w) (fun q => 8 - q.1) (0, M94) ⟨rfl, trivial⟩ ⟨Nat.zero_le _, RO.le.refl _, H⟩ ?_
      clear H
      rintro ⟨i, M1⟩ f2 w ⟨hi, hM1, HL⟩ again
      dsimp only at hi hM1 HL
      by_cases h1 : i < ta.length
      · by_cases h2 : i < 8
        · obtain ⟨⟨tn, t1, t2⟩, ht⟩ : ∃ t, ta[i]? = some t := ⟨_, List.getElem?_eq_getElem h1⟩
          have hft := ha.fits _ (List.mem_of_getElem? ht)
          obtain ⟨ga, gc, ge, hrow2⟩ := hA12.shape
          injection ge with ge1 ge2 ge3
          subst ge1
          obtain ⟨g0, g1, g2⟩ := flatA_get ht
          obtain ⟨qb, qo, qcs, qe, qz, rfl, hMq, hc0⟩ := hrow2.at g0
          obtain ⟨_, _, _, _, _, k1, k2, hc1⟩ := hrow2.at g1
          cases k1; rw [hMq] at k2; cases k2
          obtain ⟨_, _, _, _, _, k1, k2, hc2⟩ := hrow2.at g2
          cases k1; rw [hMq] at k2; cases k2
          dsimp only at hft hc0 hc1 hc2
          have H := HL
          clear HL
          refine Goes.seq (Goes.seq (Goes.region ?_))
          refine GoL.stepS rfl rfl (mvI rfl ?_)
          refine GoL.stepS rfl rfl (mvL rfl ?_)
          refine GoL.stepS rfl rfl (r_lenSlice tt36 rfl ?_)
          refine GoL.stepS rfl rfl (r_lssT rfl rfl (by first | omega | (dsimp only; omega)) ?_)
          refine GoL.stepS rfl rfl (mvB rfl ?_)
          refine GoL.stepYS rfl rfl rfl (mvI rfl ?_)
          refine GoL.stepYS rfl rfl rfl (r_lssT rfl rfl (by first | omega | (dsimp only; omega)) ?_)
          refine GoL.stepS rfl rfl (r_pickT (v := .bool true) rfl rfl ?_)
          refine GoL.nil ?_
          refine Goes.condT rfl (rfl) ?_
          refine Goes.skip (Goes.seq (Goes.block (Goes.seq ?_)))
          refine Goes.regionD0 mixed (by kernel_rfl) 17 H ?_
          refine Ver.read (v := .slice _ _ _) 0 rfl (by kernel_rfl) (fun M' L' w hM H => mvL rfl ⟨rfl, rfl⟩) ?_
          refine Ver.read (v := .int _ _) 1 rfl (by kernel_rfl) (fun M' L' w hM H => mvI rfl ⟨rfl, rfl⟩) ?_
          refine Ver.read (v := .pointer _) 2 rfl (by kernel_rfl) (fun M' L' w hM H => r_indexAddrN tt36 tt70 rfl rfl h1 ⟨rfl, rfl⟩) ?_
          first | refine Ver.read (v := .pointer _) 3 rfl (by kernel_rfl) (fun M' L' w hM H => r_fieldAddr0 fo70_1 rfl ⟨rfl, rfl⟩) ?_ | refine Ver.read (v := .pointer _) 3 rfl (by kernel_rfl) (fun M' L' w hM H => r_fieldAddr fo70_1 rfl ⟨rfl, rfl⟩) ?_
          refine Ver.read (v := .int _ _) 4 rfl (by kernel_rfl) (fun M' L' w hM H => ldI tt45 rfl (H.ro (hM _ _ (hM1 _ _ hMq))) hc1 ⟨rfl, rfl⟩) ?_
          refine Ver.read (v := .int _ _) 5 rfl (by kernel_rfl) (fun M' L' w hM H => r_cv_i64 tt45 tt3 rfl (by first | omega | (dsimp only; omega)) (by first | omega | (dsimp only; omega)) ⟨rfl, rfl⟩) ?_
          refine Ver.read (v := .int _ _) 6 rfl (by kernel_rfl) (fun M' L' w hM H => r_remR ((t1 % 2049 : Nat) : Int) rfl rfl (by first | omega | (dsimp only; omega)) (by first | omega | (dsimp only; omega)) (by first | omega | (dsimp only; omega)) ⟨rfl, rfl⟩) ?_
          refine Ver.read (v := .slice _ _ _) 7 rfl (by kernel_rfl) (fun M' L' w hM H => mvL rfl ⟨rfl, rfl⟩) ?_
          refine Ver.read (v := .int _ _) 8 rfl (by kernel_rfl) (fun M' L' w hM H => mvI rfl ⟨rfl, rfl⟩) ?_
          refine Ver.read (v := .pointer _) 9 rfl (by kernel_rfl) (fun M' L' w hM H => r_indexAddrN tt36 tt70 rfl rfl h1 ⟨rfl, rfl⟩) ?_
          first | refine Ver.read (v := .pointer _) 10 rfl (by kernel_rfl) (fun M' L' w hM H => r_fieldAddr0 fo70_2 rfl ⟨rfl, rfl⟩) ?_ | refine Ver.read (v := .pointer _) 10 rfl (by kernel_rfl) (fun M' L' w hM H => r_fieldAddr fo70_2 rfl ⟨rfl, rfl⟩) ?_
          refine Ver.read (v := .int _ _) 11 rfl (by kernel_rfl) (fun M' L' w hM H => ldI tt45 rfl (H.ro (hM _ _ (hM1 _ _ hMq))) hc2 ⟨rfl, rfl⟩) ?_
          refine Ver.read (v := .int _ _) 12 rfl (by kernel_rfl) (fun M' L' w hM H => r_cv_i64 tt45 tt3 rfl (by first | omega | (dsimp only; omega)) (by first | omega | (dsimp only; omega)) ⟨rfl, rfl⟩) ?_
          refine Ver.read (v := .int _ _) 13 rfl (by kernel_rfl) (fun M' L' w hM H => r_remR ((t2 % 2049 : Nat) : Int) rfl rfl (by first | omega | (dsimp only; omega)) (by first | omega | (dsimp only; omega)) (by first | omega | (dsimp only; omega)) ⟨rfl, rfl⟩) ?_
          refine Ver.read (v := .int _ _) 14 rfl (by kernel_rfl) (fun M' L' w hM H => asI rfl ⟨rfl, rfl⟩) ?_
          refine Ver.read (v := .int _ _) 15 rfl (by kernel_rfl) (fun M' L' w hM H => asI rfl ⟨rfl, rfl⟩) ?_
          refine Ver.fin0 (by kernel_rfl) ?_
          clear H; intro w H
          refine Goes.seq (Goes.region ?_)
          refine GoL.stepS rfl rfl (ldA tt24 rfl (H.ro (hM1 _ _ hb12)) rfl (by rfl) ?_)
          refine GoL.stepS rfl rfl (mvI rfl ?_)
          refine GoL.stepS rfl rfl (mvI rfl ?_)
          refine GoL.stepS rfl rfl (r_call cc39 (coefficient_spec (hfK.p.mono hM1) (by first | omega | (dsimp only; omega)) (by first | omega | (dsimp only; omega))) H ?_); clear H; rintro v124 M124 L124 w hM124 ⟨rfl, rfl, h124⟩ H
          refine GoL.stepS rfl rfl (r_call0 hdr cc27 (natString_spec (k := 2) (hT12.mono hM1) h124 (ite_lim lf _ _ _) (by first | omega | (dsimp only; omega))) H ?_); clear H; rintro v125 M125 L125 w hM125 ⟨rfl, rfl⟩ H
          refine GoL.stepS rfl rfl (mvL rfl ?_)
          refine GoL.stepS rfl rfl (mvI rfl ?_)
          refine GoL.stepS rfl rfl (mvI rfl ?_)
          refine GoL.stepS rfl rfl (r_call cc40 (rat40_spec ((hfK.r.mono hM1).mono hM125) (by first | omega | (dsimp only; omega))) H ?_); clear H; rintro v129 M129 L129 w hM129 ⟨rfl, rfl, h129⟩ H
          refine GoL.stepS rfl rfl (r_call cc28 (rtext_spec (k := 11) h129 (ite_lt hf.lt _ _ _) (by first | omega | (dsimp only; omega))) H ?_); clear H; rintro v130 M130 L130 w hM130 ⟨rfl, rfl⟩ H
          refine GoL.stepS rfl rfl (r_neqSF rfl rfl rfl ?_)
          refine GoL.nil ?_
          refine Goes.condF rfl (rfl) ?_
          refine Goes.skip (Goes.inBlock (Goes.region ?_))
          refine GoL.stepS rfl rfl (mvI rfl ?_)
          refine GoL.stepS rfl rfl (r_addR ((i + 1 : Nat) : Int) rfl rfl (by first | omega | (dsimp only; omega)) (by first | omega | (dsimp only; omega)) (by first | omega | (dsimp only; omega)) ?_)
          refine GoL.stepS rfl rfl (asI rfl ?_)
          refine GoL.nil ?_
          exact again (i + 1, M130) _ _ ⟨rfl, trivial⟩ (.of_strip (by kernel_rfl)) ⟨by first | omega | (dsimp only; omega), hM1.trans (hM125.trans hM130), H⟩ (by first | omega | (dsimp only; omega))
        · have H := HL
          clear HL
          refine Goes.seq (Goes.seq (Goes.region ?_))
          refine GoL.stepS rfl rfl (mvI rfl ?_)
          refine GoL.stepS rfl rfl (mvL rfl ?_)
          refine GoL.stepS rfl rfl (r_lenSlice tt36 rfl ?_)
          refine GoL.stepS rfl rfl (r_lssT rfl rfl (by first | omega | (dsimp only; omega)) ?_)
          refine GoL.stepS rfl rfl (mvB rfl ?_)
          refine GoL.stepYS rfl rfl rfl (mvI rfl ?_)
          refine GoL.stepYS rfl rfl rfl (r_lssF rfl rfl (by first | omega | (dsimp only; omega)) ?_)
          refine GoL.stepS rfl rfl (r_pickT (v := .bool false) rfl rfl ?_)
          refine GoL.nil ?_
          refine Goes.condF rfl (rfl) ?_
          refine Goes.exit rfl (Goes.seq (Goes.region ?_))
          refine GoL.stepS rfl rfl (ldA tt24 rfl (H.ro (hM1 _ _ hb12)) rfl (by rfl) ?_)
          refine GoL.stepS rfl rfl (mvL rfl ?_)
          refine GoL.stepS rfl rfl (r_call0 hdr cc15 (alike_spec (hT12.mono hM1) (hfK.p.mono hM1) (hfK.r.mono hM1) (k := 11) (by first | omega | (dsimp only; omega)) hf.lt (by first | omega | (dsimp only; omega))) H ?_); clear H; rintro v134 M134 L134 w hM134 ⟨rfl, rfl⟩ H
          refine GoL.stepS rfl rfl (mvB rfl ?_)
          refine GoL.stepYS rfl rfl rfl (ldA tt24 rfl (H.ro (hM134 _ _ (hM1 _ _ hb12))) rfl (by rfl) ?_)
          refine GoL.stepYS rfl rfl rfl (r_call cc41 (numTerms_spec ((hfK.p.mono hM1).mono hM134)) H ?_); clear H; rintro v137 M137 L137 w hM137 ⟨rfl, rfl, rfl⟩ H
          refine GoL.stepYS rfl rfl rfl (mvL rfl ?_)
          refine GoL.stepYS rfl rfl rfl (r_lenSlice tt29 rfl ?_)
          refine GoL.stepYS rfl rfl rfl (r_eqlT rfl rfl (by rw [hf.r.count]) ?_)
          refine GoL.stepS rfl rfl (r_pickB rfl rfl rfl ?_)
          refine GoL.stepS rfl rfl (mvB rfl ?_)
          refine GoL.stepYS rfl rfl rfl (mvI rfl ?_)
          refine GoL.stepYS rfl rfl rfl (mvI rfl ?_)
          refine GoL.stepYS rfl rfl rfl (r_eqlT rfl rfl edx ?_)
          refine GoL.stepS rfl rfl (r_pickB rfl rfl rfl ?_)
          refine GoL.stepS rfl rfl (mvB rfl ?_)
          refine GoL.stepYS rfl rfl rfl (mvI rfl ?_)
          refine GoL.stepYS rfl rfl rfl (mvI rfl ?_)
          refine GoL.stepYS rfl rfl rfl (r_eqlT rfl rfl edy ?_)
          refine GoL.stepS rfl rfl (r_pickB rfl rfl rfl ?_)
          refine GoL.stepS rfl rfl (mvB rfl ?_)
          refine GoL.stepYS rfl rfl rfl (ldA tt24 rfl (H.ro (hM134 _ _ (hM1 _ _ hb12))) rfl (by rfl) ?_)
          refine GoL.stepYS rfl rfl rfl (mvI rfl ?_)
          refine GoL.stepYS rfl rfl rfl (mvI rfl ?_)
          refine GoL.stepYS rfl rfl rfl (r_call cc39 (coefficient_spec ((hfK.p.mono hM1).mono hM134) hab.1 hab.2) H ?_); clear H; rintro v156 M156 L156 w hM156 ⟨rfl, rfl, h156⟩ H
          refine GoL.stepYS rfl rfl rfl (r_call0 hdr cc27 (natString_spec (k := 2) ((hT12.mono hM1).mono hM134) h156 (ite_lim lf _ _ _) (by first | omega | (dsimp only; omega))) H ?_); clear H; rintro v157 M157 L157 w hM157 ⟨rfl, rfl⟩ H
          refine GoL.stepYS rfl rfl rfl (mvL rfl ?_)
          refine GoL.stepYS rfl rfl rfl (mvI rfl ?_)
          refine GoL.stepYS rfl rfl rfl (mvI rfl ?_)
          refine GoL.stepYS rfl rfl rfl (r_call cc40 (rat40_spec (((hfK.r.mono hM1).mono hM134).mono hM157) (by first | omega | (dsimp only; omega))) H ?_); clear H; rintro v161 M161 L161 w hM161 ⟨rfl, rfl, h161⟩ H
          refine GoL.stepYS rfl rfl rfl (r_call cc28 (rtext_spec (k := 11) h161 (ite_lt hf.lt _ _ _) (by first | omega | (dsimp only; omega))) H ?_); clear H; rintro v162 M162 L162 w hM162 ⟨rfl, rfl⟩ H
          refine GoL.stepYS rfl rfl rfl (r_eqlST rfl rfl rfl ?_)
          refine GoL.stepS rfl rfl (r_pickB rfl rfl rfl ?_)
          refine GoL.stepS rfl rfl (asB rfl ?_)
          refine GoL.nil ?_
          exact Goes.ret (ret1 (v := .bool _) rfl rfl rfl H.nil rfl)
      · have H := HL
        clear HL
        refine Goes.seq (Goes.seq (Goes.region ?_))
        refine GoL.stepS rfl rfl (mvI rfl ?_)
        refine GoL.stepS rfl rfl (mvL rfl ?_)
        refine GoL.stepS rfl rfl (r_lenSlice tt36 rfl ?_)
        refine GoL.stepS rfl rfl (r_lssF rfl rfl (by first | omega | (dsimp only; omega)) ?_)
        refine GoL.stepS rfl rfl (mvB rfl ?_)
        refine GoL.stepNS rfl rfl rfl ?_
        refine GoL.stepNS rfl rfl rfl ?_
        refine GoL.stepS rfl rfl (r_pickF (v := .bool false) rfl rfl ?_)
        refine GoL.nil ?_
        refine Goes.condF rfl (rfl) ?_
        refine Goes.exit rfl (Goes.seq (Goes.region ?_))
        refine GoL.stepS rfl rfl (ldA tt24 rfl (H.ro (hM1 _ _ hb12)) rfl (by rfl) ?_)
        refine GoL.stepS rfl rfl (mvL rfl ?_)
        refine GoL.stepS rfl rfl (r_call0 hdr cc15 (alike_spec (hT12.mono hM1) (hfK.p.mono hM1) (hfK.r.mono hM1) (k := 11) (by first | omega | (dsimp only; omega)) hf.lt (by first | omega | (dsimp only; omega))) H ?_); clear H; rintro v134 M134 L134 w hM134 ⟨rfl, rfl⟩ H
        refine GoL.stepS rfl rfl (mvB rfl ?_)
        refine GoL.stepYS rfl rfl rfl (ldA tt24 rfl (H.ro (hM134 _ _ (hM1 _ _ hb12))) rfl (by rfl) ?_)
        refine GoL.stepYS rfl rfl rfl (r_call cc41 (numTerms_spec ((hfK.p.mono hM1).mono hM134)) H ?_); clear H; rintro v137 M137 L137 w hM137 ⟨rfl, rfl, rfl⟩ H
        refine GoL.stepYS rfl rfl rfl (mvL rfl ?_)
        refine GoL.stepYS rfl rfl rfl (r_lenSlice tt29 rfl ?_)
        refine GoL.stepYS rfl rfl rfl (r_eqlT rfl rfl (by rw [hf.r.count]) ?_)
        refine GoL.stepS rfl rfl (r_pickB rfl rfl rfl ?_)
        refine GoL.stepS rfl rfl (mvB rfl ?_)
        refine GoL.stepYS rfl rfl rfl (mvI rfl ?_)
        refine GoL.stepYS rfl rfl rfl (mvI rfl ?_)
        refine GoL.stepYS rfl rfl rfl (r_eqlT rfl rfl edx ?_)
        refine GoL.stepS rfl rfl (r_pickB rfl rfl rfl ?_)
        refine GoL.stepS rfl rfl (mvB rfl ?_)
        refine GoL.stepYS rfl rfl rfl (mvI rfl ?_)
        refine GoL.stepYS rfl rfl rfl (mvI rfl ?_)
        refine GoL.stepYS rfl rfl rfl (r_eqlT rfl rfl edy ?_)
        refine GoL.stepS rfl rfl (r_pickB rfl rfl rfl ?_)
        refine GoL.stepS rfl rfl (mvB rfl ?_)
        refine GoL.stepYS rfl rfl rfl (ldA tt24 rfl (H.ro (hM134 _ _ (hM1 _ _ hb12))) rfl (by rfl) ?_)
        refine GoL.stepYS rfl rfl rfl (mvI rfl ?_)
        refine GoL.stepYS rfl rfl rfl (mvI rfl ?_)
        refine GoL.stepYS rfl rfl rfl (r_call cc39 (coefficient_spec ((hfK.p.mono hM1).mono hM134) hab.1 hab.2) H ?_); clear H; rintro v156 M156 L156 w hM156 ⟨rfl, rfl, h156⟩ H
        refine GoL.stepYS rfl rfl rfl (r_call0 hdr cc27 (natString_spec (k := 2) ((hT12.mono hM1).mono hM134) h156 (ite_lim lf _ _ _) (by first | omega | (dsimp only; omega))) H ?_); clear H; rintro v157 M157 L157 w hM157 ⟨rfl, rfl⟩ H
        refine GoL.stepYS rfl rfl rfl (mvL rfl ?_)
        refine GoL.stepYS rfl rfl rfl (mvI rfl ?_)
        refine GoL.stepYS rfl rfl rfl (mvI rfl ?_)
        refine GoL.stepYS rfl rfl rfl (r_call cc40 (rat40_spec (((hfK.r.mono hM1).mono hM134).mono hM157) (by first | omega | (dsimp only; omega))) H ?_); clear H; rintro v161 M161 L161 w hM161 ⟨rfl, rfl, h161⟩ H
        refine GoL.stepYS rfl rfl rfl (r_call cc28 (rtext_spec (k := 11) h161 (ite_lt hf.lt _ _ _) (by first | omega | (dsimp only; omega))) H ?_); clear H; rintro v162 M162 L162 w hM162 ⟨rfl, rfl⟩ H
        refine GoL.stepYS rfl rfl rfl (r_eqlST rfl rfl rfl ?_)
        refine GoL.stepS rfl rfl (r_pickB rfl rfl rfl ?_)
        refine GoL.stepS rfl rfl (asB rfl ?_)
        refine GoL.nil ?_
        exact Goes.ret (ret1 (v := .bool _) rfl rfl rfl H.nil rfl)
    · obtain rfl : ok = false := by
        cases ok
        · rfl
        · exact absurd (hok.1 rfl) hO
      have H := HH
      clear HH
      refine Goes.seq (Goes.seq ?_)
      refine Goes.regionDX mixed (by kernel_rfl) 36 H ?_
      refine Ver.nextX 0 (by kernel_rfl) rfl (by kernel_rfl) ?_
      clear H; intro w H
      refine r_call0 hdr cc14 (known_spec gT gm) H ?_
      clear H; rintro v47 M47 L47 w hM47 ⟨rfl, rfl⟩ H
      refine ⟨_, _, hM47, H, ?_⟩
      refine Ver.read (v := .bool _) 1 rfl (by kernel_rfl) (fun M' L' w hM H => r_not rfl ⟨rfl, rfl⟩) ?_
      refine Ver.read (v := .bool _) 2 rfl (by kernel_rfl) (fun M' L' w hM H => mvB rfl ⟨rfl, rfl⟩) ?_
      refine Ver.readY (v := .int _ _) 3 rfl (by kernel_rfl) rfl (fun M' L' w hM H => mvI rfl ⟨rfl, rfl⟩) ?_
      refine Ver.readY (v := .bool _) 4 rfl (by kernel_rfl) rfl (fun M' L' w hM H => r_eqlF rfl rfl (by first | omega | (dsimp only; omega)) ⟨rfl, rfl⟩) ?_
      refine Ver.readY (v := .bool _) 5 rfl (by kernel_rfl) rfl (fun M' L' w hM H => mvB rfl ⟨rfl, rfl⟩) ?_
      refine Ver.readY (v := .bool _) 6 rfl (by kernel_rfl) rfl (fun M' L' w hM H => r_neqBF tt4 rfl rfl rfl ⟨rfl, rfl⟩) ?_
      refine Ver.read (v := .bool _) 7 rfl (by kernel_rfl) (fun M' L' w hM H => r_pickF (v := .bool false) rfl rfl ⟨rfl, rfl⟩) ?_
      refine Ver.read (v := .bool _) 8 rfl (by kernel_rfl) (fun M' L' w hM H => mvB rfl ⟨rfl, rfl⟩) ?_
      refine Ver.readY (v := .bool _) 9 rfl (by kernel_rfl) rfl (fun M' L' w hM H => mvB rfl ⟨rfl, rfl⟩) ?_
      refine Ver.readY (v := .bool _) 10 rfl (by kernel_rfl) rfl (fun M' L' w hM H => r_not rfl ⟨rfl, rfl⟩) ?_
      refine Ver.readY (v := .bool _) 11 rfl (by kernel_rfl) rfl (fun M' L' w hM H => mvB rfl ⟨rfl, rfl⟩) ?_
      refine Ver.readY (v := .int _ _) 12 rfl (by kernel_rfl) rfl (fun M' L' w hM H => mvI rfl ⟨rfl, rfl⟩) ?_
      refine Ver.readY (v := .bool _) 13 rfl (by kernel_rfl) rfl (fun M' L' w hM H => r_neqF rfl rfl (by first | omega | (dsimp only; omega)) ⟨rfl, rfl⟩) ?_
      refine Ver.readY (v := .bool _) 14 rfl (by kernel_rfl) rfl (fun M' L' w hM H => mvB rfl ⟨rfl, rfl⟩) ?_
      refine Ver.readY (v := .agg _) 15 rfl (by kernel_rfl) rfl (fun M' L' w hM H => ldA tt24 rfl (H.ro (hM _ _ (hM47 _ _ hb9))) rfl (by rfl) ⟨rfl, rfl⟩) ?_
      refine Ver.nextXY 16 (by kernel_rfl) rfl (by kernel_rfl) rfl ?_
      clear H; intro w H
      refine r_call cc22 (zero_spec) H ?_
      clear H; rintro v63 M63 L63 w hM63 ⟨rfl, rfl, rfl⟩ H
      refine ⟨_, _, hM63, H, ?_⟩
      refine Ver.nextXY 17 (by kernel_rfl) rfl (by kernel_rfl) rfl ?_
      clear H; intro w H
      refine r_call cc24 (pequalT (PolyV.zero _) (PolyV.zero _) rfl) H ?_
      clear H; rintro v64 M64 L64 w hM64 ⟨rfl, rfl, rfl⟩ H
      refine ⟨_, _, hM64, H, ?_⟩
      refine Ver.readY (v := .bool _) 18 rfl (by kernel_rfl) rfl (fun M' L' w hM H => r_not rfl ⟨rfl, rfl⟩) ?_
      refine Ver.readY (v := .bool _) 19 rfl (by kernel_rfl) rfl (fun M' L' w hM H => r_pickF (v := .bool false) rfl rfl ⟨rfl, rfl⟩) ?_
      refine Ver.readY (v := .bool _) 20 rfl (by kernel_rfl) rfl (fun M' L' w hM H => r_pickT (v := .bool false) rfl rfl ⟨rfl, rfl⟩) ?_
      refine Ver.read (v := .bool _) 21 rfl (by kernel_rfl) (fun M' L' w hM H => r_pickF (v := .bool false) rfl rfl ⟨rfl, rfl⟩) ?_
      refine Ver.read (v := .bool _) 22 rfl (by kernel_rfl) (fun M' L' w hM H => mvB rfl ⟨rfl, rfl⟩) ?_
      refine Ver.readY (v := .bool _) 23 rfl (by kernel_rfl) rfl (fun M' L' w hM H => mvB rfl ⟨rfl, rfl⟩) ?_
      refine Ver.readY (v := .bool _) 24 rfl (by kernel_rfl) rfl (fun M' L' w hM H => mvB rfl ⟨rfl, rfl⟩) ?_
      refine Ver.readN 25 rfl (by kernel_rfl) (by intro e; cases e) ?_
      refine Ver.readN 26 rfl (by kernel_rfl) (by intro e; cases e) ?_
      refine Ver.readN 27 rfl (by kernel_rfl) (by intro e; cases e) ?_
      refine Ver.readN 28 rfl (by kernel_rfl) (by intro e; cases e) ?_
      refine Ver.readN 29 rfl (by kernel_rfl) (by intro e; cases e) ?_
      refine Ver.readN 30 rfl (by kernel_rfl) (by intro e; cases e) ?_
      refine Ver.readN 31 rfl (by kernel_rfl) (by intro e; cases e) ?_
      refine Ver.readN 32 rfl (by kernel_rfl) (by intro e; cases e) ?_
      refine Ver.readY (v := .bool _) 33 rfl (by kernel_rfl) rfl (fun M' L' w hM H => r_pickF (v := .bool false) rfl rfl ⟨rfl, rfl⟩) ?_
      refine Ver.read (v := .bool _) 34 rfl (by kernel_rfl) (fun M' L' w hM H => r_pickF (v := .bool false) rfl rfl ⟨rfl, rfl⟩) ?_
      refine Ver.finX (by kernel_rfl) ?_
      clear H; intro w H
      refine Goes.condF rfl (rfl) ?_
      have gB := gA.mono hM47
      have gTB := gT.mono hM47
      refine Goes.skip (Goes.seq (Goes.region ?_))
      refine GoL.stepS rfl rfl (mvL rfl ?_)
      refine GoL.stepS rfl rfl (r_call cc17 (made40_spec (most := 2048) gB (by decide)) H ?_); clear H; rintro v84 M84 L84 w hM84 ⟨rfl, p84, u84, f, rfl, hf⟩ H
      refine GoL.stepS rfl rfl (mvT rfl ?_)
      obtain ⟨q84, a84, n84, c84, rfl, rfl⟩ := hf.shapes
      refine GoL.stepS rfl rfl (r_extract rfl rfl ?_)
      refine GoL.stepS rfl rfl (r_extract rfl rfl ?_)
      refine GoL.stepS rfl rfl (r_alloc tt24 H ?_); clear H; intro b12 w hb12 H
      refine GoL.step0 rfl (stA tt24 rfl rfl H (by repeat constructor) rfl rfl (by rfl) ?_); clear H; intro w H
      refine GoL.stepS rfl rfl (asL rfl ?_)
      refine GoL.nil ?_
      refine Goes.seq ?_
      obtain ⟨K12, hb12, hle12, H⟩ := H.freezeX (i := 0) .head
      have hfK := hf.mono hle12
      have lf := hf.lim
      have hT12 : TabM K12 := (gTB.mono hM84).mono hle12
      have hA12 := (gB.mono hM84).mono hle12
      refine Goes.region ?_
      refine GoL.stepS rfl rfl (ldA tt24 rfl (H.ro hb12) rfl (by rfl) ?_)
      refine GoL.stepS rfl rfl (r_call cc37 (degree_spec hfK.p) H ?_); clear H; rintro v89 M89 L89 w hM89 ⟨rfl, rfl, dx, dy, rfl, hdx, hdy⟩ H
      refine GoL.stepS rfl rfl (mvT rfl ?_)
      refine GoL.stepS rfl rfl (r_extract rfl rfl ?_)
      refine GoL.stepS rfl rfl (r_extract rfl rfl ?_)
      refine GoL.stepS rfl rfl (asI rfl ?_)
      refine GoL.stepS rfl rfl (asI rfl ?_)
      refine GoL.nil ?_
      refine Goes.seq (Goes.region ?_)
      refine GoL.stepS rfl rfl (mvL rfl ?_)
      refine GoL.stepS rfl rfl (r_call cc38 (rdeg_spec hfK.r (by first | omega | (dsimp only; omega))) H ?_); clear H; rintro v94 M94 L94 w hM94 ⟨rfl, rfl, ex, ey, rfl, hex, hey⟩ H
      refine GoL.stepS rfl rfl (mvT rfl ?_)
      refine GoL.stepS rfl rfl (r_extract rfl rfl ?_)
      refine GoL.stepS rfl rfl (r_extract rfl rfl ?_)
      refine GoL.stepS rfl rfl (asI rfl ?_)
      refine GoL.stepS rfl rfl (asI rfl ?_)
      refine GoL.nil ?_
      refine Goes.seq (Goes.seq ?_)
      have edx := hdx.uniq hex
      have edy := hdy.uniq hey
      refine Goes.region ?_
      refine GoL.stepS rfl rfl (asI rfl ?_)
      refine GoL.nil ?_
      refine Goes.block ?_
      refine Goes.loopS (6 :: 18 :: 19 :: 20 :: 97 :: 98 :: 99 :: 100 :: 101 :: 102 :: 103 :: 104 :: 105 :: 106 :: 107 :: 108 :: 109 :: 110 :: 111 :: 112 :: 113 :: 114 :: 115 :: 116 :: 117 :: 118 :: 119 :: 120 :: 121 :: 122 :: 123 :: 124 :: 125 :: 126 :: 127 :: 128 :: 129 :: 130 :: 131 :: []) (fun (q : Nat × RO) => [(18, .int .i64 (q.1 : Int))]) (fun q w => q.1 ≤ 8 ∧ M94.le q.2 ∧ Hp E q.2 [] w) (fun q => 8 - q.1) (0, M94) ⟨rfl, trivial⟩ ⟨Nat.zero_le _, RO.le.refl _, H⟩ ?_
      clear H
      rintro ⟨i, M1⟩ f2 w ⟨hi, hM1, HL⟩ again
      dsimp only at hi hM1 HL
      by_cases h1 : i < ta.length
      · by_cases h2 : i < 8
        · obtain ⟨⟨tn, t1, t2⟩, ht⟩ : ∃ t, ta[i]? = some t := ⟨_, List.getElem?_eq_getElem h1⟩
          have hft := ha.fits _ (List.mem_of_getElem? ht)
          obtain ⟨ga, gc, ge, hrow2⟩ := hA12.shape
          injection ge with ge1 ge2 ge3
          subst ge1
          obtain ⟨g0, g1, g2⟩ := flatA_get ht
          obtain ⟨qb, qo, qcs, qe, qz, rfl, hMq, hc0⟩ := hrow2.at g0
          obtain ⟨_, _, _, _, _, k1, k2, hc1⟩ := hrow2.at g1
          cases k1; rw [hMq] at k2; cases k2
          obtain ⟨_, _, _, _, _, k1, k2, hc2⟩ := hrow2.at g2
          cases k1; rw [hMq] at k2; cases k2
          dsimp only at hft hc0 hc1 hc2
          have H := HL
          clear HL
          refine Goes.seq (Goes.seq (Goes.region ?_))
          refine GoL.stepS rfl rfl (mvI rfl ?_)
          refine GoL.stepS rfl rfl (mvL rfl ?_)
          refine GoL.stepS rfl rfl (r_lenSlice tt36 rfl ?_)
          refine GoL.stepS rfl rfl (r_lssT rfl rfl (by first | omega | (dsimp only; omega)) ?_)
          refine GoL.stepS rfl rfl (mvB rfl ?_)
          refine GoL.stepYS rfl rfl rfl (mvI rfl ?_)
          refine GoL.stepYS rfl rfl rfl (r_lssT rfl rfl (by first | omega | (dsimp only; omega)) ?_)
          refine GoL.stepS rfl rfl (r_pickT (v := .bool true) rfl rfl ?_)
          refine GoL.nil ?_
          refine Goes.condT rfl (rfl) ?_
          refine Goes.skip (Goes.seq (Goes.block (Goes.seq ?_)))
          refine Goes.regionD0 mixed (by kernel_rfl) 17 H ?_
          refine Ver.read (v := .slice _ _ _) 0 rfl (by kernel_rfl) (fun M' L' w hM H => mvL rfl ⟨rfl, rfl⟩) ?_
          refine Ver.read (v := .int _ _) 1 rfl (by kernel_rfl) (fun M' L' w hM H => mvI rfl ⟨rfl, rfl⟩) ?_
          refine Ver.read (v := .pointer _) 2 rfl (by kernel_rfl) (fun M' L' w hM H => r_indexAddrN tt36 tt70 rfl rfl h1 ⟨rfl, rfl⟩) ?_
          first | refine Ver.read (v := .pointer _) 3 rfl (by kernel_rfl) (fun M' L' w hM H => r_fieldAddr0 fo70_1 rfl ⟨rfl, rfl⟩) ?_ | refine Ver.read (v := .pointer _) 3 rfl (by kernel_rfl) (fun M' L' w hM H => r_fieldAddr fo70_1 rfl ⟨rfl, rfl⟩) ?_
          refine Ver.read (v := .int _ _) 4 rfl (by kernel_rfl) (fun M' L' w hM H => ldI tt45 rfl (H.ro (hM _ _ (hM1 _ _ hMq))) hc1 ⟨rfl, rfl⟩) ?_
          refine Ver.read (v := .int _ _) 5 rfl (by kernel_rfl) (fun M' L' w hM H => r_cv_i64 tt45 tt3 rfl (by first | omega | (dsimp only; omega)) (by first | omega | (dsimp only; omega)) ⟨rfl, rfl⟩) ?_
          refine Ver.read (v := .int _ _) 6 rfl (by kernel_rfl) (fun M' L' w hM H => r_remR ((t1 % 2049 : Nat) : Int) rfl rfl (by first | omega | (dsimp only; omega)) (by first | omega | (dsimp only; omega)) (by first | omega | (dsimp only; omega)) ⟨rfl, rfl⟩) ?_
          refine Ver.read (v := .slice _ _ _) 7 rfl (by kernel_rfl) (fun M' L' w hM H => mvL rfl ⟨rfl, rfl⟩) ?_
          refine Ver.read (v := .int _ _) 8 rfl (by kernel_rfl) (fun M' L' w hM H => mvI rfl ⟨rfl, rfl⟩) ?_
          refine Ver.read (v := .pointer _) 9 rfl (by kernel_rfl) (fun M' L' w hM H => r_indexAddrN tt36 tt70 rfl rfl h1 ⟨rfl, rfl⟩) ?_
          first | refine Ver.read (v := .pointer _) 10 rfl (by kernel_rfl) (fun M' L' w hM H => r_fieldAddr0 fo70_2 rfl ⟨rfl, rfl⟩) ?_ | refine Ver.read (v := .pointer _) 10 rfl (by kernel_rfl) (fun M' L' w hM H => r_fieldAddr fo70_2 rfl ⟨rfl, rfl⟩) ?_
          refine Ver.read (v := .int _ _) 11 rfl (by kernel_rfl) (fun M' L' w hM H => ldI tt45 rfl (H.ro (hM _ _ (hM1 _ _ hMq))) hc2 ⟨rfl, rfl⟩) ?_
          refine Ver.read (v := .int _ _) 12 rfl (by kernel_rfl) (fun M' L' w hM H => r_cv_i64 tt45 tt3 rfl (by first | omega | (dsimp only; omega)) (by first | omega | (dsimp only; omega)) ⟨rfl, rfl⟩) ?_
          refine Ver.read (v := .int _ _) 13 rfl (by kernel_rfl) (fun M' L' w hM H => r_remR ((t2 % 2049 : Nat) : Int) rfl rfl (by first | omega | (dsimp only; omega)) (by first | omega | (dsimp only; omega)) (by first | omega | (dsimp only; omega)) ⟨rfl, rfl⟩) ?_
          refine Ver.read (v := .int _ _) 14 rfl (by kernel_rfl) (fun M' L' w hM H => asI rfl ⟨rfl, rfl⟩) ?_
          refine Ver.read (v := .int _ _) 15 rfl (by kernel_rfl) (fun M' L' w hM H => asI rfl ⟨rfl, rfl⟩) ?_
          refine Ver.fin0 (by kernel_rfl) ?_
          clear H; intro w H
          refine Goes.seq (Goes.region ?_)
          refine GoL.stepS rfl rfl (ldA tt24 rfl (H.ro (hM1 _ _ hb12)) rfl (by rfl) ?_)
          refine GoL.stepS rfl rfl (mvI rfl ?_)
          refine GoL.stepS rfl rfl (mvI rfl ?_)
          refine GoL.stepS rfl rfl (r_call cc39 (coefficient_spec (hfK.p.mono hM1) (by first | omega | (dsimp only; omega)) (by first | omega | (dsimp only; omega))) H ?_); clear H; rintro v124 M124 L124 w hM124 ⟨rfl, rfl, h124⟩ H
          refine GoL.stepS rfl rfl (r_call0 hdr cc27 (natString_spec (k := 2) (hT12.mono hM1) h124 (ite_lim lf _ _ _) (by first | omega | (dsimp only; omega))) H ?_); clear H; rintro v125 M125 L125 w hM125 ⟨rfl, rfl⟩ H
          refine GoL.stepS rfl rfl (mvL rfl ?_)
          refine GoL.stepS rfl rfl (mvI rfl ?_)
          refine GoL.stepS rfl rfl (mvI rfl ?_)
          refine GoL.stepS rfl rfl (r_call cc40 (rat40_spec ((hfK.r.mono hM1).mono hM125) (by first | omega | (dsimp only; omega))) H ?_); clear H; rintro v129 M129 L129 w hM129 ⟨rfl, rfl, h129⟩ H
          refine GoL.stepS rfl rfl (r_call cc28 (rtext_spec (k := 11) h129 (ite_lt hf.lt _ _ _) (by first | omega | (dsimp only; omega))) H ?_); clear H; rintro v130 M130 L130 w hM130 ⟨rfl, rfl⟩ H
          refine GoL.stepS rfl rfl (r_neqSF rfl rfl rfl ?_)
          refine GoL.nil ?_
          refine Goes.condF rfl (rfl) ?_
          refine Goes.skip (Goes.inBlock (Goes.region ?_))
          refine GoL.stepS rfl rfl (mvI rfl ?_)
          refine GoL.stepS rfl rfl (r_addR ((i + 1 : Nat) : Int) rfl rfl (by first | omega | (dsimp only; omega)) (by first | omega | (dsimp only; omega)) (by first | omega | (dsimp only; omega)) ?_)
          refine GoL.stepS rfl rfl (asI rfl ?_)
          refine GoL.nil ?_
          exact again (i + 1, M130) _ _ ⟨rfl, trivial⟩ (.of_strip (by kernel_rfl)) ⟨by first | omega | (dsimp only; omega), hM1.trans (hM125.trans hM130), H⟩ (by first | omega | (dsimp only; omega))
        · have H := HL
          clear HL
          refine Goes.seq (Goes.seq (Goes.region ?_))
          refine GoL.stepS rfl rfl (mvI rfl ?_)
          refine GoL.stepS rfl rfl (mvL rfl ?_)
          refine GoL.stepS rfl rfl (r_lenSlice tt36 rfl ?_)
          refine GoL.stepS rfl rfl (r_lssT rfl rfl (by first | omega | (dsimp only; omega)) ?_)
          refine GoL.stepS rfl rfl (mvB rfl ?_)
          refine GoL.stepYS rfl rfl rfl (mvI rfl ?_)
          refine GoL.stepYS rfl rfl rfl (r_lssF rfl rfl (by first | omega | (dsimp only; omega)) ?_)
          refine GoL.stepS rfl rfl (r_pickT (v := .bool false) rfl rfl ?_)
          refine GoL.nil ?_
          refine Goes.condF rfl (rfl) ?_
          refine Goes.exit rfl (Goes.seq (Goes.region ?_))
          refine GoL.stepS rfl rfl (ldA tt24 rfl (H.ro (hM1 _ _ hb12)) rfl (by rfl) ?_)
          refine GoL.stepS rfl rfl (mvL rfl ?_)
          refine GoL.stepS rfl rfl (r_call0 hdr cc15 (alike_spec (hT12.mono hM1) (hfK.p.mono hM1) (hfK.r.mono hM1) (k := 11) (by first | omega | (dsimp only; omega)) hf.lt (by first | omega | (dsimp only; omega))) H ?_); clear H; rintro v134 M134 L134 w hM134 ⟨rfl, rfl⟩ H
          refine GoL.stepS rfl rfl (mvB rfl ?_)
          refine GoL.stepYS rfl rfl rfl (ldA tt24 rfl (H.ro (hM134 _ _ (hM1 _ _ hb12))) rfl (by rfl) ?_)
          refine GoL.stepYS rfl rfl rfl (r_call cc41 (numTerms_spec ((hfK.p.mono hM1).mono hM134)) H ?_); clear H; rintro v137 M137 L137 w hM137 ⟨rfl, rfl, rfl⟩ H
          refine GoL.stepYS rfl rfl rfl (mvL rfl ?_)
          refine GoL.stepYS rfl rfl rfl (r_lenSlice tt29 rfl ?_)
          refine GoL.stepYS rfl rfl rfl (r_eqlT rfl rfl (by rw [hf.r.count]) ?_)
          refine GoL.stepS rfl rfl (r_pickB rfl rfl rfl ?_)
          refine GoL.stepS rfl rfl (mvB rfl ?_)
          refine GoL.stepYS rfl rfl rfl (mvI rfl ?_)
          refine GoL.stepYS rfl rfl rfl (mvI rfl ?_)
          refine GoL.stepYS rfl rfl rfl (r_eqlT rfl rfl edx ?_)
          refine GoL.stepS rfl rfl (r_pickB rfl rfl rfl ?_)
          refine GoL.stepS rfl rfl (mvB rfl ?_)
          refine GoL.stepYS rfl rfl rfl (mvI rfl ?_)
          refine GoL.stepYS rfl rfl rfl (mvI rfl ?_)
          refine GoL.stepYS rfl rfl rfl (r_eqlT rfl rfl edy ?_)
          refine GoL.stepS rfl rfl (r_pickB rfl rfl rfl ?_)
          refine GoL.stepS rfl rfl (mvB rfl ?_)
          refine GoL.stepYS rfl rfl rfl (ldA tt24 rfl (H.ro (hM134 _ _ (hM1 _ _ hb12))) rfl (by rfl) ?_)
          refine GoL.stepYS rfl rfl rfl (mvI rfl ?_)
          refine GoL.stepYS rfl rfl rfl (mvI rfl ?_)
          refine GoL.stepYS rfl rfl rfl (r_call cc39 (coefficient_spec ((hfK.p.mono hM1).mono hM134) hab.1 hab.2) H ?_); clear H; rintro v156 M156 L156 w hM156 ⟨rfl, rfl, h156⟩ H
          refine GoL.stepYS rfl rfl rfl (r_call0 hdr cc27 (natString_spec (k := 2) ((hT12.mono hM1).mono hM134) h156 (ite_lim lf _ _ _) (by first | omega | (dsimp only; omega))) H ?_); clear H; rintro v157 M157 L157 w hM157 ⟨rfl, rfl⟩ H
          refine GoL.stepYS rfl rfl rfl (mvL rfl ?_)
          refine GoL.stepYS rfl rfl rfl (mvI rfl ?_)
          refine GoL.stepYS rfl rfl rfl (mvI rfl ?_)
          refine GoL.stepYS rfl rfl rfl (r_call cc40 (rat40_spec (((hfK.r.mono hM1).mono hM134).mono hM157) (by first | omega | (dsimp only; omega))) H ?_); clear H; rintro v161 M161 L161 w hM161 ⟨rfl, rfl, h161⟩ H
          refine GoL.stepYS rfl rfl rfl (r_call cc28 (rtext_spec (k := 11) h161 (ite_lt hf.lt _ _ _) (by first | omega | (dsimp only; omega))) H ?_); clear H; rintro v162 M162 L162 w hM162 ⟨rfl, rfl⟩ H
          refine GoL.stepYS rfl rfl rfl (r_eqlST rfl rfl rfl ?_)
          refine GoL.stepS rfl rfl (r_pickB rfl rfl rfl ?_)
          refine GoL.stepS rfl rfl (asB rfl ?_)
          refine GoL.nil ?_
          exact Goes.ret (ret1 (v := .bool _) rfl rfl rfl H.nil rfl)
      · have H := HL
        clear HL
        refine Goes.seq (Goes.seq (Goes.region ?_))
        refine GoL.stepS rfl rfl (mvI rfl ?_)
        refine GoL.stepS rfl rfl (mvL rfl ?_)
        refine GoL.stepS rfl rfl (r_lenSlice tt36 rfl ?_)
        refine GoL.stepS rfl rfl (r_lssF rfl rfl (by first | omega | (dsimp only; omega)) ?_)
        refine GoL.stepS rfl rfl (mvB rfl ?_)
        refine GoL.stepNS rfl rfl rfl ?_
        refine GoL.stepNS rfl rfl rfl ?_
        refine GoL.stepS rfl rfl (r_pickF (v := .bool false) rfl rfl ?_)
        refine GoL.nil ?_
        refine Goes.condF rfl (rfl) ?_
        refine Goes.exit rfl (Goes.seq (Goes.region ?_))
        refine GoL.stepS rfl rfl (ldA tt24 rfl (H.ro (hM1 _ _ hb12)) rfl (by rfl) ?_)
        refine GoL.stepS rfl rfl (mvL rfl ?_)
        refine GoL.stepS rfl rfl (r_call0 hdr cc15 (alike_spec (hT12.mono hM1) (hfK.p.mono hM1) (hfK.r.mono hM1) (k := 11) (by first | omega | (dsimp only; omega)) hf.lt (by first | omega | (dsimp only; omega))) H ?_); clear H; rintro v134 M134 L134 w hM134 ⟨rfl, rfl⟩ H
        refine GoL.stepS rfl rfl (mvB rfl ?_)
        refine GoL.stepYS rfl rfl rfl (ldA tt24 rfl (H.ro (hM134 _ _ (hM1 _ _ hb12))) rfl (by rfl) ?_)
        refine GoL.stepYS rfl rfl rfl (r_call cc41 (numTerms_spec ((hfK.p.mono hM1).mono hM134)) H ?_); clear H; rintro v137 M137 L137 w hM137 ⟨rfl, rfl, rfl⟩ H
        refine GoL.stepYS rfl rfl rfl (mvL rfl ?_)
        refine GoL.stepYS rfl rfl rfl (r_lenSlice tt29 rfl ?_)
        refine GoL.stepYS rfl rfl rfl (r_eqlT rfl rfl (by rw [hf.r.count]) ?_)
        refine GoL.stepS rfl rfl (r_pickB rfl rfl rfl ?_)
        refine GoL.stepS rfl rfl (mvB rfl ?_)
        refine GoL.stepYS rfl rfl rfl (mvI rfl ?_)
        refine GoL.stepYS rfl rfl rfl (mvI rfl ?_)
        refine GoL.stepYS rfl rfl rfl (r_eqlT rfl rfl edx ?_)
        refine GoL.stepS rfl rfl (r_pickB rfl rfl rfl ?_)
        refine GoL.stepS rfl rfl (mvB rfl ?_)
        refine GoL.stepYS rfl rfl rfl (mvI rfl ?_)
        refine GoL.stepYS rfl rfl rfl (mvI rfl ?_)
        refine GoL.stepYS rfl rfl rfl (r_eqlT rfl rfl edy ?_)
        refine GoL.stepS rfl rfl (r_pickB rfl rfl rfl ?_)
        refine GoL.stepS rfl rfl (mvB rfl ?_)
        refine GoL.stepYS rfl rfl rfl (ldA tt24 rfl (H.ro (hM134 _ _ (hM1 _ _ hb12))) rfl (by rfl) ?_)
        refine GoL.stepYS rfl rfl rfl (mvI rfl ?_)
        refine GoL.stepYS rfl rfl rfl (mvI rfl ?_)
        refine GoL.stepYS rfl rfl rfl (r_call cc39 (coefficient_spec ((hfK.p.mono hM1).mono hM134) hab.1 hab.2) H ?_); clear H; rintro v156 M156 L156 w hM156 ⟨rfl, rfl, h156⟩ H
        refine GoL.stepYS rfl rfl rfl (r_call0 hdr cc27 (natString_spec (k := 2) ((hT12.mono hM1).mono hM134) h156 (ite_lim lf _ _ _) (by first | omega | (dsimp only; omega))) H ?_); clear H; rintro v157 M157 L157 w hM157 ⟨rfl, rfl⟩ H
        refine GoL.stepYS rfl rfl rfl (mvL rfl ?_)
        refine GoL.stepYS rfl rfl rfl (mvI rfl ?_)
        refine GoL.stepYS rfl rfl rfl (mvI rfl ?_)
        refine GoL.stepYS rfl rfl rfl (r_call cc40 (rat40_spec (((hfK.r.mono hM1).mono hM134).mono hM157) (by first | omega | (dsimp only; omega))) H ?_); clear H; rintro v161 M161 L161 w hM161 ⟨rfl, rfl, h161⟩ H
        refine GoL.stepYS rfl rfl rfl (r_call cc28 (rtext_spec (k := 11) h161 (ite_lt hf.lt _ _ _) (by first | omega | (dsimp only; omega))) H ?_); clear H; rintro v162 M162 L162 w hM162 ⟨rfl, rfl⟩ H
        refine GoL.stepYS rfl rfl rfl (r_eqlST rfl rfl rfl ?_)
        refine GoL.stepS rfl rfl (r_pickB rfl rfl rfl ?_)
        refine GoL.stepS rfl rfl (asB rfl ?_)
        refine GoL.nil ?_
        exact Goes.ret (ret1 (v := .bool _) rfl rfl rfl H.nil rfl)

end Go.Proofs.YtlcpdkckldlceaaGreatDoor
namespace Go.Proofs.YtlcpdkckldlceaaGreatDoor.terms
open Go.Sx Go.ChangeShapes Go.WideShapes Go.ChangeAt Go.RowKit
set_option maxRecDepth 100000

/-- WHAT THE WALK GIVES, FOR EVERY ARGUMENT AND EVERY WORLD. -/
theorem contract (H : Type) (enc : TypeId × Value → H) (W : World) (base : Nat) (args : Array Value) (ds gs : List (DataW H)) (before : List MemPlace)
    (hval : ∀ (j : Nat) t v, Tryz.f8.params[j]? = some t → args[j]? = some v → Value.okWide Tryz.prog W .any base t v)
    (hW : DataW.Whole enc Tryz.prog Tryz.f8.params.toList Rows.polynomialTermsSpec.vars false W args.toList ds gs before) (hL : laidMetH Tryz.prog Rows.polynomialTermsRow.laid W) (hsh : W.ShapedOpen Tryz.prog) :
    Calls Tryz.prog 8 args W fun e W' => ∃ v, e = .returned v ∧ Rows.polynomialTermsSpec.post enc Tryz.prog Tryz.f8 false true false false W args v W' := by
  have hW' := hW
  obtain ⟨p, q, hA, hV, rfl, hfz, hnd⟩ := hW
  rw [Tryz.params8] at hA hval
  have hA : DataW.TrodAll enc Tryz.prog W 0 (fun _ => true) true [36, 51, 62] args.toList ds p := hA
  obtain ⟨v0, vs0, d0, ds0, p0, q0, hargs, rfl, rfl, h0, r0⟩ := trodAll_cons hA
  obtain ⟨v1, vs1, d1, ds1, p1, q1, rfl, rfl, rfl, h1, r1⟩ := trodAll_cons r0
  obtain ⟨v2, vs2, d2, ds2, p2, q2, rfl, rfl, rfl, h2, r2⟩ := trodAll_cons r1
  obtain ⟨rfl, rfl, rfl⟩ := trodAll_nil r2
  obtain rfl : args = #[v0, v1, v2] := by cases args; simp_all
  obtain ⟨t0, a0⟩ := argT_of (hval 0 36 v0 rfl rfl) h0
  obtain ⟨n1, rfl, hn1⟩ := u64_of (hval 1 51 v1 rfl rfl) h1
  obtain ⟨n2, m2, rfl, hn2⟩ := pairI_of (hval 2 62 v2 rfl rfl) h2
  have hT : TabM (ofW W) := tabM_of hL
  refine (Sp0.world (terms_law hT (maxM_of hsh) a0 hn1 hn2)).mono fun e W' ⟨he, hS, hos, hout⟩ => ?_
  subst he
  exact ⟨_, rfl, post_true (L := [36, 70, 68, 45, 4, 51, 62, 3, 46, 9]) hS (by kernel_rfl) (by rw [Tryz.params8]; decide) hos hout hW' rfl (tb := 4) (by kernel_rfl) Tryz.underlying4 rfl⟩

theorem reads (os : Os) {H : Type} (enc : TypeId × Value → H) : ∃ places, DataW.whole enc Tryz.prog (startW os #[.slice none 0 0, .int .u64 0, .agg #[.int .i64 0, .int .i64 0]]).memory Tryz.f8.params.toList Rows.polynomialTermsSpec.vars false #[Value.slice none 0 0, .int .u64 0, .agg #[.int .i64 0, .int .i64 0]].toList 8 = some ([.nil, .lit (.int .u64 0), .agg [.lit (.int .i64 0), .lit (.int .i64 0)]], [], places) :=
  ⟨[], by kernel_rfl⟩

theorem lifted (os : Os) (started : os.Started) (H : Type) (enc : TypeId × Value → H) (F : Stop.Interp) :
    ReturnsInHanded {} Tryz.checked os 8 .any ((OpenSpec.ofChange Rows.polynomialTermsSpec).preRow enc Tryz.prog Tryz.f8 Rows.polynomialTermsRow.domain false Rows.polynomialTermsRow.laid) (((OpenSpec.ofChange Rows.polynomialTermsSpec).at F).post enc Tryz.prog Tryz.f8 false true false false) := by
  obtain ⟨places, hx⟩ := reads os enc
  refine returnsInHanded_of_row (C := Tryz.checked) (s := OpenSpec.ofChange Rows.polynomialTermsSpec) ownK started (by kernel_rfl) Tryz.func8
    (witness_row_at (enc := enc) (C := Tryz.checked) false (laidWorld os) #[.slice none 0 0, .int .u64 0, .agg #[.int .i64 0, .int .i64 0]] rfl (by kernel_rfl) (by kernel_rfl) (by kernel_rfl)
      (OpenSpec.preRow_of_cond 8 hx (by kernel_rfl) (fun k hk => by cases hk) (by kernel_rfl) (laid_met os _))) ?_
  intro W base args ds gs before hval hW _ _ _ hL hsh _
  exact contract H enc W base args ds gs before hval hW hL hsh

theorem said : Rows.PolynomialTermsSaid :=
  OpenClaim.holds_of_cond 8 Tryz.f8 rfl rfl rfl rfl rfl rfl rfl ⟨rfl, rfl, rfl, rfl, rfl⟩ rfl rfl rfl rfl rfl (by kernel_rfl) Tryz.func8 (by kernel_rfl)
    (of_decide_eq_true (by kernel_rfl)) (by unfold Func.isWrapper; first | (rw [if_pos (by decide +kernel)]; kernel_rfl) | (rw [if_neg (by decide +kernel)]; exact ⟨rfl, rfl⟩))
    (fun os started H enc _ F => by rw [OpenClaim.pre_eq_preRow]; exact lifted os started H enc F)

/-- No parameter wants a stand-in; the program's own looks. -/
theorem plain (f : FuncId) (fn : Func) (hf : Tryz.pinned.checked.prog.funcNamed "palmette/palmettelaw40.PolynomialTerms" = some f) (hfn : Tryz.pinned.checked.prog.funcs[f]? = some fn) :
    true = Tryz.pinned.checked.prog.looks [] ∧ ∀ (j : Nat) t, fn.params[j]? = some t → Tryz.pinned.checked.prog.wantsStandIn t = false := by
  obtain rfl : f = 8 := Option.some.inj ((show Tryz.prog.funcNamed "palmette/palmettelaw40.PolynomialTerms" = some 8 by kernel_rfl).symm.trans hf) |>.symm
  obtain rfl : fn = Tryz.f8 := (Option.some.inj (Tryz.func8.symm.trans hfn)).symm
  refine ⟨by kernel_rfl, fun j t ht => ?_⟩
  have hall : (#[36, 51, 62] : Array TypeId).all (fun t => Tryz.prog.wantsStandIn t == false) = true := by kernel_rfl
  rw [Tryz.params8] at ht
  have := Array.all_eq_true_iff_forall_mem.1 hall t (Array.mem_of_getElem? ht)
  exact (show Tryz.prog.wantsStandIn t = false by simpa using this)

/-- THE CARD. -/
theorem card : Rows.PolynomialTermsCardSaid :=
  Claim7.holds_tied_plain_at .later [] _ _ _ _ said (fun _ h => by cases h) (by kernel_rfl) (fun _ h => by cases h) polynomialTerms_row_tie rfl ⟨rfl, rfl⟩ (by kernel_rfl) rfl plain (by kernel_rfl)
end Go.Proofs.YtlcpdkckldlceaaGreatDoor.terms
