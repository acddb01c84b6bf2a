/-
  The statement PolynomialTexts holds for every input, the listed library variables holding what their initialisers lay: it returns true and leaves its arguments as they were.
-/
import Derived.Test.YtlcpdkckldlceaaGreatDoorFL
import Derived.Test.YtlcpdkckldlceaaGreatDoorFM
import Derived.Test.YtlcpdkckldlceaaGreatDoorRows
import Derived.SevenTiedAt
import Derived.JoinedCond
namespace Go.Proofs.YtlcpdkckldlceaaGreatDoor
open Go.Sx Go.Nat32 Go.Dec Go.PolyL Go.Lib Go.Proofs
attribute [local irreducible] pt sl itc itm
set_option maxRecDepth 100000
set_option linter.unusedVariables false
set_option linter.unusedSimpArgs false
set_option maxHeartbeats 1000000

theorem conv_lt {f g : Nat → Nat → Nat} {k : Nat} (hf : ∀ a b, f a b < 10 ^ k) (hg : ∀ a b, g a b < 10 ^ k) (a b : Nat) : conv f g a b < 10 ^ (2 * k + 14) := by
  have h1 := conv_le (f := f) (g := g) (c := 10 ^ k * 10 ^ k) (fun a b d e => Nat.mul_le_mul (Nat.le_of_lt (hf a b)) (Nat.le_of_lt (hg d e))) a b
  have h2 : (10 : Nat) ^ (2 * k + 14) = 10 ^ k * 10 ^ k * 100000000000000 := by
    rw [Nat.pow_add, Nat.two_mul, Nat.pow_add]
  have h3 : 0 < 10 ^ k * 10 ^ k := Nat.mul_pos (Nat.pow_pos (by decide)) (Nat.pow_pos (by decide))
  rw [h2]
  generalize 10 ^ k * 10 ^ k = z at *
  omega
theorem conv_lim {f g : Nat → Nat → Nat} {k l : Nat} (hf : ∀ a b, lim k (f a b)) (hg : ∀ a b, lim l (g a b)) (a b : Nat) : lim (k + l + 2) (conv f g a b) := by
  have h1 := conv_le (f := f) (g := g) (c := 4294967296 ^ k * 4294967296 ^ l) (fun a b d e => Nat.mul_le_mul (Nat.le_of_lt (hf a b)) (Nat.le_of_lt (hg d e))) a b
  unfold lim
  have h2 : (4294967296 : Nat) ^ (k + l + 2) = 4294967296 ^ k * 4294967296 ^ l * 18446744073709551616 := by
    rw [Nat.pow_add, Nat.pow_add]
  have h3 : 0 < 4294967296 ^ k * 4294967296 ^ l := Nat.mul_pos (Nat.pow_pos (by decide)) (Nat.pow_pos (by decide))
  rw [h2]
  generalize 4294967296 ^ k * 4294967296 ^ l = z at *
  omega

theorem Made.shapes {M : RO} {v u : Value} {f : Nat → Nat → Nat} {most m : Nat} (h : Made M v u f most m) : ∃ q a n c, v = .agg #[.map q] ∧ u = .slice a n c := by
  obtain ⟨q, hq⟩ := h.p.shape
  obtain ⟨a, n, c, hu⟩ := h.r.shape
  exact ⟨q, a, n, c, hq, hu⟩

theorem sumProduct_law {M : RO} (hT : TabM M) (hm : MaxM M) {va vb : Value} {ta tb : List (Nat × Nat × Nat)} {small : Bool} (ha : ArgT M va ta) (hb : ArgT M vb tb) :
    Sp0 Tryz.prog 4 [va, vb, .bool small] M [] fun r _ _ => r = .bool true := by
  have ha' := ha
  have hb' := hb
  obtain ⟨aa, ac, rfl, _⟩ := ha.shape
  obtain ⟨ba, bc, rfl, _⟩ := hb.shape
  refine Sp0.enter (n := 54) Tryz.func4 rfl Tryz.ntmps4 rfl ?_
  intro E hdr hE H
  subst hE
  refine Goes.seq (Goes.region ?_)
  refine GoL.stepS rfl rfl (asB rfl ?_)
  refine GoL.nil ?_
  refine Goes.seq (Goes.region ?_)
  refine GoL.stepS rfl rfl (asI rfl ?_)
  refine GoL.nil ?_
  refine Goes.seq (Goes.seq (Goes.region ?_))
  refine GoL.stepS rfl rfl (mvB rfl ?_)
  refine GoL.nil ?_
  refine Goes.cutT [7] [(7, .int .i64 2048)] (fun (most : Nat) => [(7, .int .i64 (most : Int))]) (fun most w => most ≤ 2048 ∧ Hp E E.M [] w) ⟨rfl, trivial⟩ ?aft ?cut
  case cut =>
    intro f0 meet
    refine Goes.cond rfl (fun hs => ?_) (fun hs => ?_)
    · refine Goes.region ?_
      refine GoL.stepS rfl rfl (asI rfl ?_)
      refine GoL.nil ?_
      exact meet 3 _ _ ⟨rfl, trivial⟩ (.of_strip (by kernel_rfl)) ⟨by decide, H⟩
    · refine Goes.skip ?_
      exact meet 2048 _ _ ⟨rfl, trivial⟩ (.of_strip (by kernel_rfl)) ⟨Nat.le_refl _, H⟩
  case aft =>
    clear H
    rintro most f1 w ⟨hmost, H⟩
    refine Goes.seq (Goes.region ?_)
    refine GoL.stepS rfl rfl (mvL rfl ?_)
    refine GoL.stepS rfl rfl (mvI rfl ?_)
    refine GoL.stepS rfl rfl (r_call cc17 (made40_spec ha' hmost) H ?_); clear H; rintro v16 M16 L16 w hM16 ⟨rfl, p16, u16, f, rfl, hf⟩ H
    obtain ⟨q16, a16, n16, c16, rfl, rfl⟩ := hf.shapes
    refine GoL.stepS rfl rfl (mvT rfl ?_)
    refine GoL.stepS rfl rfl (r_extract rfl rfl ?_)
    refine GoL.stepS rfl rfl (r_extract rfl rfl ?_)
    refine GoL.stepS rfl rfl (r_alloc tt24 H ?_); clear H; intro b8 w hb8 H
    refine GoL.step0 rfl (stA tt24 rfl rfl H (by repeat constructor) rfl rfl (by rfl) ?_); clear H; intro w H
    refine GoL.stepS rfl rfl (asL rfl ?_)
    refine GoL.nil ?_
    refine Goes.seq (Goes.region ?_)
    refine GoL.stepS rfl rfl (mvL rfl ?_)
    refine GoL.stepS rfl rfl (mvI rfl ?_)
    refine GoL.stepS rfl rfl (r_call cc17 (made40_spec (hb'.mono hM16) hmost) H ?_); clear H; rintro v22 M22 L22 w hM22 ⟨rfl, p22, u22, g, rfl, hg⟩ H
    obtain ⟨q22, a22, n22, c22, rfl, rfl⟩ := hg.shapes
    have hf := hf.mono hM22
    have hfg : ∀ a b, f a b + g a b < 10 ^ 12 := fun a b => by
      have h1 := hf.lt a b
      have h2 := hg.lt a b
      have h3 : (10 : Nat) ^ 11 = 100000000000 := rfl
      have h4 : (10 : Nat) ^ 12 = 1000000000000 := rfl
      rw [h3] at h1 h2; rw [h4]; omega
    have gT : TabM M22 := (hT.mono hM16).mono hM22
    have gle : ∀ {A B C D F G J : RO}, A.le B → B.le C → C.le D → D.le F → F.le G → G.le J → A.le J := fun h1 h2 h3 h4 h5 h6 b o h => h6 _ _ (h5 _ _ (h4 _ _ (h3 _ _ (h2 _ _ (h1 _ _ h)))))
    refine GoL.stepS rfl rfl (mvT rfl ?_)
    refine GoL.stepS rfl rfl (r_extract rfl rfl ?_)
    refine GoL.stepS rfl rfl (r_extract rfl rfl ?_)
    refine GoL.stepS rfl rfl (r_alloc tt24 H ?_); clear H; intro b10 w hb10 H
    refine GoL.step0 rfl (stA tt24 rfl rfl H (by repeat constructor) rfl rfl (by rfl) ?_); clear H; intro w H
    refine GoL.stepS rfl rfl (asL rfl ?_)
    refine GoL.nil ?_
    refine Goes.seq (Goes.region ?_)
    refine GoL.stepS rfl rfl (r_call0 hdr cc14 (known_spec ((hT.mono hM16).mono hM22) ((hm.mono hM16).mono hM22)) H ?_); clear H; rintro v25 M25 L25 w hM25 ⟨rfl, rfl⟩ H
    refine GoL.stepS rfl rfl (mvB rfl ?_)
    refine GoL.stepYS rfl rfl rfl (ldA tt24 rfl (H.own (by repeat constructor)) rfl (by rfl) ?_)
    refine GoL.stepYS rfl rfl rfl (ldA tt24 rfl (H.own (by repeat constructor)) rfl (by rfl) ?_)
    refine GoL.stepYS rfl rfl rfl (r_call cc18 (padd_spec (hf.p.mono hM25) (hg.p.mono hM25) hf.lim hg.lim (by first | omega | (dsimp only; omega))) H ?_); clear H; rintro v29 M29 L29 w hM29 ⟨rfl, h29⟩ H
    refine GoL.stepYS rfl rfl rfl (mvL rfl ?_)
    refine GoL.stepYS rfl rfl rfl (mvL rfl ?_)
    refine GoL.stepYS rfl rfl rfl (r_call cc19 (radd40_spec (((hf.r.mono hM25)).mono hM29) ((hg.r.mono hM25).mono hM29) (k := 12) (by first | omega | (dsimp only; omega)) hfg (by first | omega | (dsimp only; omega))) H ?_); clear H; rintro v32 M32 L32 w hM32 ⟨rfl, h32⟩ H
    refine GoL.stepYS rfl rfl rfl (r_call0 hdr cc15 (alike_spec (((gT.mono hM25).mono hM29).mono hM32) (h29.mono hM32) h32 (k := 12) (by first | omega | (dsimp only; omega)) hfg (by first | omega | (dsimp only; omega))) H ?_); clear H; rintro v33 M33 L33 w hM33 ⟨rfl, rfl⟩ H
    refine GoL.stepS rfl rfl (r_pickB rfl rfl rfl ?_)
    refine GoL.stepS rfl rfl (mvB rfl ?_)
    refine GoL.stepYS rfl rfl rfl (ldA tt24 rfl (H.own (by repeat constructor)) rfl (by rfl) ?_)
    refine GoL.stepYS rfl rfl rfl (ldA tt24 rfl (H.own (by repeat constructor)) rfl (by rfl) ?_)
    refine GoL.stepYS rfl rfl rfl (r_call cc20 (pmul_spec (((((hf.p.mono hM25).mono hM29).mono hM32)).mono hM33) ((((hg.p.mono hM25).mono hM29).mono hM32).mono hM33) hf.lim hg.lim (by first | omega | (dsimp only; omega))) H ?_); clear H; rintro v38 M38 L38 w hM38 ⟨rfl, h38⟩ H
    refine GoL.stepYS rfl rfl rfl (mvL rfl ?_)
    refine GoL.stepYS rfl rfl rfl (mvL rfl ?_)
    refine GoL.stepYS rfl rfl rfl (r_call cc21 (rmul40_spec (((((hf.r.mono hM25).mono hM29).mono hM32).mono hM33).mono hM38) (((((hg.r.mono hM25).mono hM29).mono hM32).mono hM33).mono hM38) (k := 11) (by first | omega | (dsimp only; omega)) hf.lt hg.lt (by first | omega | (dsimp only; omega)) (by first | omega | (dsimp only; omega))) H ?_); clear H; rintro v41 M41 L41 w hM41 ⟨rfl, h41⟩ H
    refine GoL.stepYS rfl rfl rfl (r_call0 hdr cc15 (alike_spec ((((((gT.mono hM25).mono hM29).mono hM32).mono hM33).mono hM38).mono hM41) (h38.mono hM41) h41 (k := 36) (by first | omega | (dsimp only; omega)) (conv_lt (k := 11) hf.lt hg.lt) (by first | omega | (dsimp only; omega))) H ?_); clear H; rintro v42 M42 L42 w hM42 ⟨rfl, rfl⟩ H
    refine GoL.stepS rfl rfl (r_pickB rfl rfl rfl ?_)
    refine GoL.stepS rfl rfl (mvB rfl ?_)
    refine GoL.stepYS rfl rfl rfl (ldA tt24 rfl (H.own (by repeat constructor)) rfl (by rfl) ?_)
    refine GoL.stepYS rfl rfl rfl (mvL rfl ?_)
    refine GoL.stepYS rfl rfl rfl (r_call0 hdr cc15 (alike_spec ((gT.mono (gle hM25 hM29 hM32 hM33 hM38 hM41)).mono hM42) ((hf.p.mono (gle hM25 hM29 hM32 hM33 hM38 hM41)).mono hM42) ((hf.r.mono (gle hM25 hM29 hM32 hM33 hM38 hM41)).mono hM42) (k := 11) (by first | omega | (dsimp only; omega)) hf.lt (by first | omega | (dsimp only; omega))) H ?_); clear H; rintro v47 M47 L47 w hM47 ⟨rfl, rfl⟩ H
    refine GoL.stepS rfl rfl (r_pickB rfl rfl rfl ?_)
    refine GoL.stepS rfl rfl (mvB rfl ?_)
    refine GoL.stepYS rfl rfl rfl (ldA tt24 rfl (H.own (by repeat constructor)) rfl (by rfl) ?_)
    refine GoL.stepYS rfl rfl rfl (mvL rfl ?_)
    refine GoL.stepYS rfl rfl rfl (r_call0 hdr cc15 (alike_spec (((gT.mono (gle hM25 hM29 hM32 hM33 hM38 hM41)).mono hM42).mono hM47) (((hg.p.mono (gle hM25 hM29 hM32 hM33 hM38 hM41)).mono hM42).mono hM47) (((hg.r.mono (gle hM25 hM29 hM32 hM33 hM38 hM41)).mono hM42).mono hM47) (k := 11) (by first | omega | (dsimp only; omega)) hg.lt (by first | omega | (dsimp only; omega))) H ?_); clear H; rintro v52 M52 L52 w hM52 ⟨rfl, rfl⟩ H
    refine GoL.stepS rfl rfl (r_pickB rfl rfl rfl ?_)
    refine GoL.stepS rfl rfl (asB rfl ?_)
    refine GoL.nil ?_
    exact Goes.ret (ret1 (v := .bool _) rfl rfl rfl H.nil rfl)

end Go.Proofs.YtlcpdkckldlceaaGreatDoor
namespace Go.Proofs.YtlcpdkckldlceaaGreatDoor
open Go.Sx Go.Nat32 Go.Dec Go.PolyL Go.Lib Go.Proofs
attribute [local irreducible] pt sl itc itm
set_option maxRecDepth 100000
set_option linter.unusedVariables false
set_option linter.unusedSimpArgs false
set_option maxHeartbeats 1000000

theorem conv_one' {f : Nat → Nat → Nat} (hf : Boxed f) : conv f (monoF 1 0 0) = f :=
  conv_one f hf _ (by rw [monoF_at]; rfl) (fun a b h => by rw [monoF_at, if_neg (fun e => h (by injection e with e1 e2; exact ⟨e1, e2⟩))])

theorem semiring_law {M : RO} (hT : TabM M) (hm : MaxM M) {va vb vc : Value} {ta tb tc : List (Nat × Nat × Nat)} (ha : ArgT M va ta) (hb : ArgT M vb tb) (hc : ArgT M vc tc) :
    Sp0 Tryz.prog 5 [va, vb, vc] M [] fun r _ _ => r = .bool true := by
  have ha' := ha
  have hb' := hb
  have hc' := hc
  obtain ⟨aa, ac, rfl, _⟩ := ha.shape
  obtain ⟨ba, bc, rfl, _⟩ := hb.shape
  obtain ⟨ca, cc, rfl, _⟩ := hc.shape
  refine Sp0.enter (n := 113) Tryz.func5 rfl Tryz.ntmps5 rfl ?_
  intro E hdr hE H
  subst hE
  refine Goes.seq (Goes.region ?_)
  refine GoL.stepS rfl rfl (asB rfl ?_)
  refine GoL.nil ?_
  refine Goes.seq (Goes.region ?_)
  refine GoL.stepS rfl rfl (mvL rfl ?_)
  refine GoL.stepS rfl rfl (r_call cc17 (made40_spec (most := 2048) ha' (Nat.le_refl _)) H ?_); clear H; rintro v17 M17 L17 w hM17 ⟨rfl, p17, u17, f, rfl, hf⟩ H
  refine GoL.stepS rfl rfl (mvT rfl ?_)
  obtain ⟨q17, a17, n17, c17, rfl, rfl⟩ := hf.shapes
  refine GoL.stepS rfl rfl (r_extract rfl rfl ?_)
  refine GoL.stepS rfl rfl (r_extract rfl rfl ?_)
  refine GoL.stepS rfl rfl (r_alloc tt24 H ?_); clear H; intro b7 w hb7 H
  refine GoL.step0 rfl (stA tt24 rfl rfl H (by repeat constructor) rfl rfl (by rfl) ?_); clear H; intro w H
  refine GoL.stepS rfl rfl (asL rfl ?_)
  refine GoL.nil ?_
  refine Goes.seq (Goes.region ?_)
  refine GoL.stepS rfl rfl (mvL rfl ?_)
  refine GoL.stepS rfl rfl (r_call cc17 (made40_spec (most := 2048) (hb'.mono hM17) (Nat.le_refl _)) H ?_); clear H; rintro v22 M22 L22 w hM22 ⟨rfl, p22, u22, g, rfl, hg⟩ H
  refine GoL.stepS rfl rfl (mvT rfl ?_)
  obtain ⟨q22, a22, n22, c22, rfl, rfl⟩ := hg.shapes
  refine GoL.stepS rfl rfl (r_extract rfl rfl ?_)
  refine GoL.stepS rfl rfl (r_extract rfl rfl ?_)
  refine GoL.stepS rfl rfl (r_alloc tt24 H ?_); clear H; intro b9 w hb9 H
  refine GoL.step0 rfl (stA tt24 rfl rfl H (by repeat constructor) rfl rfl (by rfl) ?_); clear H; intro w H
  refine GoL.stepS rfl rfl (asL rfl ?_)
  refine GoL.nil ?_
  refine Goes.seq (Goes.region ?_)
  refine GoL.stepS rfl rfl (mvL rfl ?_)
  refine GoL.stepS rfl rfl (r_call cc17 (made40_spec (most := 2048) ((hc'.mono hM17).mono hM22) (Nat.le_refl _)) H ?_); clear H; rintro v27 M27 L27 w hM27 ⟨rfl, p27, u27, h, rfl, hh⟩ H
  refine GoL.stepS rfl rfl (mvT rfl ?_)
  obtain ⟨q27, a27, n27, c27, rfl, rfl⟩ := hh.shapes
  refine GoL.stepS rfl rfl (r_extract rfl rfl ?_)
  refine GoL.stepS rfl rfl (r_extract rfl rfl ?_)
  refine GoL.stepS rfl rfl (r_alloc tt24 H ?_); clear H; intro b11 w hb11 H
  refine GoL.step0 rfl (stA tt24 rfl rfl H (by repeat constructor) rfl rfl (by rfl) ?_); clear H; intro w H
  refine GoL.stepS rfl rfl (asL rfl ?_)
  refine GoL.nil ?_
  refine Goes.seq (Goes.region ?_)
  refine GoL.stepS rfl rfl (r_call cc22 (zero_spec) H ?_); clear H; rintro v30 M30 L30 w hM30 ⟨rfl, rfl, rfl⟩ H
  refine GoL.stepS rfl rfl (r_call cc23 (one_spec) H ?_); clear H; rintro v31 M31 L31 w hM31 ⟨rfl, h31⟩ H
  obtain ⟨q31, rfl⟩ := h31.shape
  refine GoL.stepS rfl rfl (r_alloc tt24 H ?_); clear H; intro b13 w hb13 H
  refine GoL.stepS rfl rfl (r_alloc tt24 H ?_); clear H; intro b14 w hb14 H
  refine GoL.step0 rfl (stA tt24 rfl rfl H (by repeat constructor) rfl rfl (by rfl) ?_); clear H; intro w H
  refine GoL.step0 rfl (stA tt24 rfl rfl H (by repeat constructor) rfl rfl (by rfl) ?_); clear H; intro w H
  refine GoL.nil ?_
  refine Goes.seq ?_
  obtain ⟨K14, hb14, hle14, H⟩ := H.freezeX (i := 0) .head
  obtain ⟨K13, hb13, hle13, H⟩ := H.freezeX (i := 0) .head
  obtain ⟨K11, hb11, hle11, H⟩ := H.freezeX (i := 0) .head
  obtain ⟨K9, hb9, hle9, H⟩ := H.freezeX (i := 0) .head
  obtain ⟨K7, hb7, hle7, H⟩ := H.freezeX (i := 0) .head
  have lf := hf.lim
  have lg := hg.lim
  have lh := hh.lim
  refine Goes.regionDX mixed (by kernel_rfl) 83 H ?_
  refine Ver.nextX 0 (by kernel_rfl) rfl (by kernel_rfl) ?_
  clear H; intro w H
  refine r_call0 hdr cc14 (known_spec (((((((((hT.mono hM17).mono hM22).mono hM27).mono hM31).mono hle14).mono hle13).mono hle11).mono hle9).mono hle7) (((((((((hm.mono hM17).mono hM22).mono hM27).mono hM31).mono hle14).mono hle13).mono hle11).mono hle9).mono hle7)) H ?_
  clear H; rintro v32 M32 L32 w hM32 ⟨rfl, rfl⟩ H
  refine ⟨_, _, hM32, H, ?_⟩
  refine Ver.read (v := .bool _) 1 rfl (by kernel_rfl) (fun M' L' w hM H => mvB rfl ⟨rfl, rfl⟩) ?_
  refine Ver.readY (v := .agg _) 2 rfl (by kernel_rfl) rfl (fun M' L' w hM H => ldA tt24 rfl (H.ro (hM _ _ (hM32 _ _ hb7))) rfl (by rfl) ⟨rfl, rfl⟩) ?_
  refine Ver.readY (v := .agg _) 3 rfl (by kernel_rfl) rfl (fun M' L' w hM H => ldA tt24 rfl (H.ro (hM _ _ (hM32 _ _ (hle7 _ _ hb9)))) rfl (by rfl) ⟨rfl, rfl⟩) ?_
  refine Ver.readY (v := .agg _) 5 rfl (by kernel_rfl) rfl (fun M' L' w hM H => ldA tt24 rfl (H.ro (hM _ _ (hM32 _ _ (hle7 _ _ hb9)))) rfl (by rfl) ⟨rfl, rfl⟩) ?_
  refine Ver.readY (v := .agg _) 6 rfl (by kernel_rfl) rfl (fun M' L' w hM H => ldA tt24 rfl (H.ro (hM _ _ (hM32 _ _ hb7))) rfl (by rfl) ⟨rfl, rfl⟩) ?_
  refine Ver.nextXY 4 (by kernel_rfl) rfl (by kernel_rfl) rfl ?_
  clear H; intro w H
  refine r_call cc18 (padd_spec (k := 2) ((((((((((hf.p.mono hM22).mono hM27).mono hM31).mono hle14).mono hle13).mono hle11).mono hle9).mono hle7).mono hM32)) (((((((((hg.p.mono hM27).mono hM31).mono hle14).mono hle13).mono hle11).mono hle9).mono hle7).mono hM32)) lf lg (by first | omega | (dsimp only; omega))) H ?_
  clear H; rintro v36 M36 L36 w hM36 ⟨rfl, h36⟩ H
  refine ⟨_, _, hM36, H, ?_⟩
  refine Ver.nextXY 7 (by kernel_rfl) rfl (by kernel_rfl) rfl ?_
  clear H; intro w H
  refine r_call cc18 (padd_spec (k := 2) ((((((((((hg.p.mono hM27).mono hM31).mono hle14).mono hle13).mono hle11).mono hle9).mono hle7).mono hM32).mono hM36)) (((((((((((hf.p.mono hM22).mono hM27).mono hM31).mono hle14).mono hle13).mono hle11).mono hle9).mono hle7).mono hM32).mono hM36)) lg lf (by first | omega | (dsimp only; omega))) H ?_
  clear H; rintro v39 M39 L39 w hM39 ⟨rfl, h39⟩ H
  refine ⟨_, _, hM39, H, ?_⟩
  refine Ver.nextXY 8 (by kernel_rfl) rfl (by kernel_rfl) rfl ?_
  clear H; intro w H
  refine r_call cc24 (pequalT ((h36.mono hM39)) (h39) (by funext a b; exact Nat.add_comm _ _)) H ?_
  clear H; rintro v40 M40 L40 w hM40 ⟨rfl, rfl, rfl⟩ H
  refine ⟨_, _, hM40, H, ?_⟩
  refine Ver.read (v := .bool _) 9 rfl (by kernel_rfl) (fun M' L' w hM H => r_pickB rfl rfl rfl ⟨rfl, rfl⟩) ?_
  refine Ver.read (v := .bool _) 10 rfl (by kernel_rfl) (fun M' L' w hM H => mvB rfl ⟨rfl, rfl⟩) ?_
  refine Ver.readY (v := .agg _) 11 rfl (by kernel_rfl) rfl (fun M' L' w hM H => ldA tt24 rfl (H.ro (hM _ _ (hM39 _ _ (hM36 _ _ (hM32 _ _ hb7))))) rfl (by rfl) ⟨rfl, rfl⟩) ?_
  refine Ver.readY (v := .agg _) 12 rfl (by kernel_rfl) rfl (fun M' L' w hM H => ldA tt24 rfl (H.ro (hM _ _ (hM39 _ _ (hM36 _ _ (hM32 _ _ (hle7 _ _ hb9)))))) rfl (by rfl) ⟨rfl, rfl⟩) ?_
  refine Ver.readY (v := .agg _) 14 rfl (by kernel_rfl) rfl (fun M' L' w hM H => ldA tt24 rfl (H.ro (hM _ _ (hM39 _ _ (hM36 _ _ (hM32 _ _ (hle7 _ _ hb9)))))) rfl (by rfl) ⟨rfl, rfl⟩) ?_
  refine Ver.readY (v := .agg _) 15 rfl (by kernel_rfl) rfl (fun M' L' w hM H => ldA tt24 rfl (H.ro (hM _ _ (hM39 _ _ (hM36 _ _ (hM32 _ _ hb7))))) rfl (by rfl) ⟨rfl, rfl⟩) ?_
  refine Ver.nextXY 13 (by kernel_rfl) rfl (by kernel_rfl) rfl ?_
  clear H; intro w H
  refine r_call cc20 (pmul_spec (k := 2) ((((((((((((hf.p.mono hM22).mono hM27).mono hM31).mono hle14).mono hle13).mono hle11).mono hle9).mono hle7).mono hM32).mono hM36).mono hM39)) (((((((((((hg.p.mono hM27).mono hM31).mono hle14).mono hle13).mono hle11).mono hle9).mono hle7).mono hM32).mono hM36).mono hM39)) lf lg (by first | omega | (dsimp only; omega))) H ?_
  clear H; rintro v45 M45 L45 w hM45 ⟨rfl, h45⟩ H
  refine ⟨_, _, hM45, H, ?_⟩
  refine Ver.nextXY 16 (by kernel_rfl) rfl (by kernel_rfl) rfl ?_
  clear H; intro w H
  refine r_call cc20 (pmul_spec (k := 2) ((((((((((((hg.p.mono hM27).mono hM31).mono hle14).mono hle13).mono hle11).mono hle9).mono hle7).mono hM32).mono hM36).mono hM39).mono hM45)) (((((((((((((hf.p.mono hM22).mono hM27).mono hM31).mono hle14).mono hle13).mono hle11).mono hle9).mono hle7).mono hM32).mono hM36).mono hM39).mono hM45)) lg lf (by first | omega | (dsimp only; omega))) H ?_
  clear H; rintro v48 M48 L48 w hM48 ⟨rfl, h48⟩ H
  refine ⟨_, _, hM48, H, ?_⟩
  refine Ver.nextXY 17 (by kernel_rfl) rfl (by kernel_rfl) rfl ?_
  clear H; intro w H
  refine r_call cc24 (pequalT ((h45.mono hM48)) (h48) (conv_comm f g)) H ?_
  clear H; rintro v49 M49 L49 w hM49 ⟨rfl, rfl, rfl⟩ H
  refine ⟨_, _, hM49, H, ?_⟩
  refine Ver.read (v := .bool _) 18 rfl (by kernel_rfl) (fun M' L' w hM H => r_pickB rfl rfl rfl ⟨rfl, rfl⟩) ?_
  refine Ver.read (v := .bool _) 19 rfl (by kernel_rfl) (fun M' L' w hM H => mvB rfl ⟨rfl, rfl⟩) ?_
  refine Ver.readY (v := .agg _) 20 rfl (by kernel_rfl) rfl (fun M' L' w hM H => ldA tt24 rfl (H.ro (hM _ _ (hM48 _ _ (hM45 _ _ (hM39 _ _ (hM36 _ _ (hM32 _ _ hb7))))))) rfl (by rfl) ⟨rfl, rfl⟩) ?_
  refine Ver.readY (v := .agg _) 21 rfl (by kernel_rfl) rfl (fun M' L' w hM H => ldA tt24 rfl (H.ro (hM _ _ (hM48 _ _ (hM45 _ _ (hM39 _ _ (hM36 _ _ (hM32 _ _ (hle7 _ _ hb9)))))))) rfl (by rfl) ⟨rfl, rfl⟩) ?_
  refine Ver.readY (v := .agg _) 23 rfl (by kernel_rfl) rfl (fun M' L' w hM H => ldA tt24 rfl (H.ro (hM _ _ (hM48 _ _ (hM45 _ _ (hM39 _ _ (hM36 _ _ (hM32 _ _ (hle7 _ _ (hle9 _ _ hb11))))))))) rfl (by rfl) ⟨rfl, rfl⟩) ?_
  refine Ver.readY (v := .agg _) 25 rfl (by kernel_rfl) rfl (fun M' L' w hM H => ldA tt24 rfl (H.ro (hM _ _ (hM48 _ _ (hM45 _ _ (hM39 _ _ (hM36 _ _ (hM32 _ _ hb7))))))) rfl (by rfl) ⟨rfl, rfl⟩) ?_
  refine Ver.readY (v := .agg _) 26 rfl (by kernel_rfl) rfl (fun M' L' w hM H => ldA tt24 rfl (H.ro (hM _ _ (hM48 _ _ (hM45 _ _ (hM39 _ _ (hM36 _ _ (hM32 _ _ (hle7 _ _ hb9)))))))) rfl (by rfl) ⟨rfl, rfl⟩) ?_
  refine Ver.readY (v := .agg _) 27 rfl (by kernel_rfl) rfl (fun M' L' w hM H => ldA tt24 rfl (H.ro (hM _ _ (hM48 _ _ (hM45 _ _ (hM39 _ _ (hM36 _ _ (hM32 _ _ (hle7 _ _ (hle9 _ _ hb11))))))))) rfl (by rfl) ⟨rfl, rfl⟩) ?_
  refine Ver.nextXY 22 (by kernel_rfl) rfl (by kernel_rfl) rfl ?_
  clear H; intro w H
  refine r_call cc18 (padd_spec (k := 2) ((((((((((((((hf.p.mono hM22).mono hM27).mono hM31).mono hle14).mono hle13).mono hle11).mono hle9).mono hle7).mono hM32).mono hM36).mono hM39).mono hM45).mono hM48)) (((((((((((((hg.p.mono hM27).mono hM31).mono hle14).mono hle13).mono hle11).mono hle9).mono hle7).mono hM32).mono hM36).mono hM39).mono hM45).mono hM48)) lf lg (by first | omega | (dsimp only; omega))) H ?_
  clear H; rintro v54 M54 L54 w hM54 ⟨rfl, h54⟩ H
  refine ⟨_, _, hM54, H, ?_⟩
  refine Ver.nextXY 24 (by kernel_rfl) rfl (by kernel_rfl) rfl ?_
  clear H; intro w H
  refine r_call cc18 (padd_spec (k := 3) (h54) (((((((((((((hh.p.mono hM31).mono hle14).mono hle13).mono hle11).mono hle9).mono hle7).mono hM32).mono hM36).mono hM39).mono hM45).mono hM48).mono hM54)) (fun a b => (lf a b).add (lg a b)) (fun a b => (lh a b).mono (k' := 3) (by first | omega | (dsimp only; omega))) (by first | omega | (dsimp only; omega))) H ?_
  clear H; rintro v56 M56 L56 w hM56 ⟨rfl, h56⟩ H
  refine ⟨_, _, hM56, H, ?_⟩
  refine Ver.nextXY 28 (by kernel_rfl) rfl (by kernel_rfl) rfl ?_
  clear H; intro w H
  refine r_call cc18 (padd_spec (k := 2) (((((((((((((((hg.p.mono hM27).mono hM31).mono hle14).mono hle13).mono hle11).mono hle9).mono hle7).mono hM32).mono hM36).mono hM39).mono hM45).mono hM48).mono hM54).mono hM56)) ((((((((((((((hh.p.mono hM31).mono hle14).mono hle13).mono hle11).mono hle9).mono hle7).mono hM32).mono hM36).mono hM39).mono hM45).mono hM48).mono hM54).mono hM56)) lg lh (by first | omega | (dsimp only; omega))) H ?_
  clear H; rintro v60 M60 L60 w hM60 ⟨rfl, h60⟩ H
  refine ⟨_, _, hM60, H, ?_⟩
  refine Ver.nextXY 29 (by kernel_rfl) rfl (by kernel_rfl) rfl ?_
  clear H; intro w H
  refine r_call cc18 (padd_spec (k := 3) (((((((((((((((((hf.p.mono hM22).mono hM27).mono hM31).mono hle14).mono hle13).mono hle11).mono hle9).mono hle7).mono hM32).mono hM36).mono hM39).mono hM45).mono hM48).mono hM54).mono hM56).mono hM60)) (h60) (fun a b => (lf a b).mono (k' := 3) (by first | omega | (dsimp only; omega))) (fun a b => (lg a b).add (lh a b)) (by first | omega | (dsimp only; omega))) H ?_
  clear H; rintro v61 M61 L61 w hM61 ⟨rfl, h61⟩ H
  refine ⟨_, _, hM61, H, ?_⟩
  refine Ver.nextXY 30 (by kernel_rfl) rfl (by kernel_rfl) rfl ?_
  clear H; intro w H
  refine r_call cc24 (pequalT (((h56.mono hM60).mono hM61)) (h61) (by funext a b; exact Nat.add_assoc _ _ _)) H ?_
  clear H; rintro v62 M62 L62 w hM62 ⟨rfl, rfl, rfl⟩ H
  refine ⟨_, _, hM62, H, ?_⟩
  refine Ver.read (v := .bool _) 31 rfl (by kernel_rfl) (fun M' L' w hM H => r_pickB rfl rfl rfl ⟨rfl, rfl⟩) ?_
  refine Ver.read (v := .bool _) 32 rfl (by kernel_rfl) (fun M' L' w hM H => mvB rfl ⟨rfl, rfl⟩) ?_
  refine Ver.readY (v := .agg _) 33 rfl (by kernel_rfl) rfl (fun M' L' w hM H => ldA tt24 rfl (H.ro (hM _ _ (hM61 _ _ (hM60 _ _ (hM56 _ _ (hM54 _ _ (hM48 _ _ (hM45 _ _ (hM39 _ _ (hM36 _ _ (hM32 _ _ hb7))))))))))) rfl (by rfl) ⟨rfl, rfl⟩) ?_
  refine Ver.readY (v := .agg _) 34 rfl (by kernel_rfl) rfl (fun M' L' w hM H => ldA tt24 rfl (H.ro (hM _ _ (hM61 _ _ (hM60 _ _ (hM56 _ _ (hM54 _ _ (hM48 _ _ (hM45 _ _ (hM39 _ _ (hM36 _ _ (hM32 _ _ (hle7 _ _ hb9)))))))))))) rfl (by rfl) ⟨rfl, rfl⟩) ?_
  refine Ver.readY (v := .agg _) 36 rfl (by kernel_rfl) rfl (fun M' L' w hM H => ldA tt24 rfl (H.ro (hM _ _ (hM61 _ _ (hM60 _ _ (hM56 _ _ (hM54 _ _ (hM48 _ _ (hM45 _ _ (hM39 _ _ (hM36 _ _ (hM32 _ _ (hle7 _ _ (hle9 _ _ hb11))))))))))))) rfl (by rfl) ⟨rfl, rfl⟩) ?_
  refine Ver.readY (v := .agg _) 38 rfl (by kernel_rfl) rfl (fun M' L' w hM H => ldA tt24 rfl (H.ro (hM _ _ (hM61 _ _ (hM60 _ _ (hM56 _ _ (hM54 _ _ (hM48 _ _ (hM45 _ _ (hM39 _ _ (hM36 _ _ (hM32 _ _ hb7))))))))))) rfl (by rfl) ⟨rfl, rfl⟩) ?_
  refine Ver.readY (v := .agg _) 39 rfl (by kernel_rfl) rfl (fun M' L' w hM H => ldA tt24 rfl (H.ro (hM _ _ (hM61 _ _ (hM60 _ _ (hM56 _ _ (hM54 _ _ (hM48 _ _ (hM45 _ _ (hM39 _ _ (hM36 _ _ (hM32 _ _ (hle7 _ _ hb9)))))))))))) rfl (by rfl) ⟨rfl, rfl⟩) ?_
  refine Ver.readY (v := .agg _) 40 rfl (by kernel_rfl) rfl (fun M' L' w hM H => ldA tt24 rfl (H.ro (hM _ _ (hM61 _ _ (hM60 _ _ (hM56 _ _ (hM54 _ _ (hM48 _ _ (hM45 _ _ (hM39 _ _ (hM36 _ _ (hM32 _ _ (hle7 _ _ (hle9 _ _ hb11))))))))))))) rfl (by rfl) ⟨rfl, rfl⟩) ?_
  refine Ver.nextXY 35 (by kernel_rfl) rfl (by kernel_rfl) rfl ?_
  clear H; intro w H
  refine r_call cc20 (pmul_spec (k := 2) ((((((((((((((((((hf.p.mono hM22).mono hM27).mono hM31).mono hle14).mono hle13).mono hle11).mono hle9).mono hle7).mono hM32).mono hM36).mono hM39).mono hM45).mono hM48).mono hM54).mono hM56).mono hM60).mono hM61)) (((((((((((((((((hg.p.mono hM27).mono hM31).mono hle14).mono hle13).mono hle11).mono hle9).mono hle7).mono hM32).mono hM36).mono hM39).mono hM45).mono hM48).mono hM54).mono hM56).mono hM60).mono hM61)) lf lg (by first | omega | (dsimp only; omega))) H ?_
  clear H; rintro v67 M67 L67 w hM67 ⟨rfl, h67⟩ H
  refine ⟨_, _, hM67, H, ?_⟩
  refine Ver.nextXY 37 (by kernel_rfl) rfl (by kernel_rfl) rfl ?_
  clear H; intro w H
  refine r_call cc20 (pmul_spec (k := 6) (h67) (((((((((((((((((hh.p.mono hM31).mono hle14).mono hle13).mono hle11).mono hle9).mono hle7).mono hM32).mono hM36).mono hM39).mono hM45).mono hM48).mono hM54).mono hM56).mono hM60).mono hM61).mono hM67)) (fun a b => conv_lim (k := 2) (l := 2) lf lg a b) (fun a b => (lh a b).mono (k' := 6) (by first | omega | (dsimp only; omega))) (by first | omega | (dsimp only; omega))) H ?_
  clear H; rintro v69 M69 L69 w hM69 ⟨rfl, h69⟩ H
  refine ⟨_, _, hM69, H, ?_⟩
  refine Ver.nextXY 41 (by kernel_rfl) rfl (by kernel_rfl) rfl ?_
  clear H; intro w H
  refine r_call cc20 (pmul_spec (k := 2) (((((((((((((((((((hg.p.mono hM27).mono hM31).mono hle14).mono hle13).mono hle11).mono hle9).mono hle7).mono hM32).mono hM36).mono hM39).mono hM45).mono hM48).mono hM54).mono hM56).mono hM60).mono hM61).mono hM67).mono hM69)) ((((((((((((((((((hh.p.mono hM31).mono hle14).mono hle13).mono hle11).mono hle9).mono hle7).mono hM32).mono hM36).mono hM39).mono hM45).mono hM48).mono hM54).mono hM56).mono hM60).mono hM61).mono hM67).mono hM69)) lg lh (by first | omega | (dsimp only; omega))) H ?_
  clear H; rintro v73 M73 L73 w hM73 ⟨rfl, h73⟩ H
  refine ⟨_, _, hM73, H, ?_⟩
  refine Ver.nextXY 42 (by kernel_rfl) rfl (by kernel_rfl) rfl ?_
  clear H; intro w H
  refine r_call cc20 (pmul_spec (k := 6) (((((((((((((((((((((hf.p.mono hM22).mono hM27).mono hM31).mono hle14).mono hle13).mono hle11).mono hle9).mono hle7).mono hM32).mono hM36).mono hM39).mono hM45).mono hM48).mono hM54).mono hM56).mono hM60).mono hM61).mono hM67).mono hM69).mono hM73)) (h73) (fun a b => (lf a b).mono (k' := 6) (by first | omega | (dsimp only; omega))) (fun a b => conv_lim (k := 2) (l := 2) lg lh a b) (by first | omega | (dsimp only; omega))) H ?_
  clear H; rintro v74 M74 L74 w hM74 ⟨rfl, h74⟩ H
  refine ⟨_, _, hM74, H, ?_⟩
  refine Ver.nextXY 43 (by kernel_rfl) rfl (by kernel_rfl) rfl ?_
  clear H; intro w H
  refine r_call cc24 (pequalT (((h69.mono hM73).mono hM74)) (h74) (conv_assoc f g h)) H ?_
  clear H; rintro v75 M75 L75 w hM75 ⟨rfl, rfl, rfl⟩ H
  refine ⟨_, _, hM75, H, ?_⟩
  refine Ver.read (v := .bool _) 44 rfl (by kernel_rfl) (fun M' L' w hM H => r_pickB rfl rfl rfl ⟨rfl, rfl⟩) ?_
  refine Ver.read (v := .bool _) 45 rfl (by kernel_rfl) (fun M' L' w hM H => mvB rfl ⟨rfl, rfl⟩) ?_
  refine Ver.readY (v := .agg _) 46 rfl (by kernel_rfl) rfl (fun M' L' w hM H => ldA tt24 rfl (H.ro (hM _ _ (hM74 _ _ (hM73 _ _ (hM69 _ _ (hM67 _ _ (hM61 _ _ (hM60 _ _ (hM56 _ _ (hM54 _ _ (hM48 _ _ (hM45 _ _ (hM39 _ _ (hM36 _ _ (hM32 _ _ hb7))))))))))))))) rfl (by rfl) ⟨rfl, rfl⟩) ?_
  refine Ver.readY (v := .agg _) 47 rfl (by kernel_rfl) rfl (fun M' L' w hM H => ldA tt24 rfl (H.ro (hM _ _ (hM74 _ _ (hM73 _ _ (hM69 _ _ (hM67 _ _ (hM61 _ _ (hM60 _ _ (hM56 _ _ (hM54 _ _ (hM48 _ _ (hM45 _ _ (hM39 _ _ (hM36 _ _ (hM32 _ _ (hle7 _ _ hb9)))))))))))))))) rfl (by rfl) ⟨rfl, rfl⟩) ?_
  refine Ver.readY (v := .agg _) 48 rfl (by kernel_rfl) rfl (fun M' L' w hM H => ldA tt24 rfl (H.ro (hM _ _ (hM74 _ _ (hM73 _ _ (hM69 _ _ (hM67 _ _ (hM61 _ _ (hM60 _ _ (hM56 _ _ (hM54 _ _ (hM48 _ _ (hM45 _ _ (hM39 _ _ (hM36 _ _ (hM32 _ _ (hle7 _ _ (hle9 _ _ hb11))))))))))))))))) rfl (by rfl) ⟨rfl, rfl⟩) ?_
  refine Ver.readY (v := .agg _) 51 rfl (by kernel_rfl) rfl (fun M' L' w hM H => ldA tt24 rfl (H.ro (hM _ _ (hM74 _ _ (hM73 _ _ (hM69 _ _ (hM67 _ _ (hM61 _ _ (hM60 _ _ (hM56 _ _ (hM54 _ _ (hM48 _ _ (hM45 _ _ (hM39 _ _ (hM36 _ _ (hM32 _ _ hb7))))))))))))))) rfl (by rfl) ⟨rfl, rfl⟩) ?_
  refine Ver.readY (v := .agg _) 52 rfl (by kernel_rfl) rfl (fun M' L' w hM H => ldA tt24 rfl (H.ro (hM _ _ (hM74 _ _ (hM73 _ _ (hM69 _ _ (hM67 _ _ (hM61 _ _ (hM60 _ _ (hM56 _ _ (hM54 _ _ (hM48 _ _ (hM45 _ _ (hM39 _ _ (hM36 _ _ (hM32 _ _ (hle7 _ _ hb9)))))))))))))))) rfl (by rfl) ⟨rfl, rfl⟩) ?_
  refine Ver.readY (v := .agg _) 54 rfl (by kernel_rfl) rfl (fun M' L' w hM H => ldA tt24 rfl (H.ro (hM _ _ (hM74 _ _ (hM73 _ _ (hM69 _ _ (hM67 _ _ (hM61 _ _ (hM60 _ _ (hM56 _ _ (hM54 _ _ (hM48 _ _ (hM45 _ _ (hM39 _ _ (hM36 _ _ (hM32 _ _ hb7))))))))))))))) rfl (by rfl) ⟨rfl, rfl⟩) ?_
  refine Ver.readY (v := .agg _) 55 rfl (by kernel_rfl) rfl (fun M' L' w hM H => ldA tt24 rfl (H.ro (hM _ _ (hM74 _ _ (hM73 _ _ (hM69 _ _ (hM67 _ _ (hM61 _ _ (hM60 _ _ (hM56 _ _ (hM54 _ _ (hM48 _ _ (hM45 _ _ (hM39 _ _ (hM36 _ _ (hM32 _ _ (hle7 _ _ (hle9 _ _ hb11))))))))))))))))) rfl (by rfl) ⟨rfl, rfl⟩) ?_
  refine Ver.nextXY 49 (by kernel_rfl) rfl (by kernel_rfl) rfl ?_
  clear H; intro w H
  refine r_call cc18 (padd_spec (k := 2) (((((((((((((((((((((hg.p.mono hM27).mono hM31).mono hle14).mono hle13).mono hle11).mono hle9).mono hle7).mono hM32).mono hM36).mono hM39).mono hM45).mono hM48).mono hM54).mono hM56).mono hM60).mono hM61).mono hM67).mono hM69).mono hM73).mono hM74)) ((((((((((((((((((((hh.p.mono hM31).mono hle14).mono hle13).mono hle11).mono hle9).mono hle7).mono hM32).mono hM36).mono hM39).mono hM45).mono hM48).mono hM54).mono hM56).mono hM60).mono hM61).mono hM67).mono hM69).mono hM73).mono hM74)) lg lh (by first | omega | (dsimp only; omega))) H ?_
  clear H; rintro v81 M81 L81 w hM81 ⟨rfl, h81⟩ H
  refine ⟨_, _, hM81, H, ?_⟩
  refine Ver.nextXY 50 (by kernel_rfl) rfl (by kernel_rfl) rfl ?_
  clear H; intro w H
  refine r_call cc20 (pmul_spec (k := 3) (((((((((((((((((((((((hf.p.mono hM22).mono hM27).mono hM31).mono hle14).mono hle13).mono hle11).mono hle9).mono hle7).mono hM32).mono hM36).mono hM39).mono hM45).mono hM48).mono hM54).mono hM56).mono hM60).mono hM61).mono hM67).mono hM69).mono hM73).mono hM74).mono hM81)) (h81) (fun a b => (lf a b).mono (k' := 3) (by first | omega | (dsimp only; omega))) (fun a b => (lg a b).add (lh a b)) (by first | omega | (dsimp only; omega))) H ?_
  clear H; rintro v82 M82 L82 w hM82 ⟨rfl, h82⟩ H
  refine ⟨_, _, hM82, H, ?_⟩
  refine Ver.nextXY 53 (by kernel_rfl) rfl (by kernel_rfl) rfl ?_
  clear H; intro w H
  refine r_call cc20 (pmul_spec (k := 2) ((((((((((((((((((((((((hf.p.mono hM22).mono hM27).mono hM31).mono hle14).mono hle13).mono hle11).mono hle9).mono hle7).mono hM32).mono hM36).mono hM39).mono hM45).mono hM48).mono hM54).mono hM56).mono hM60).mono hM61).mono hM67).mono hM69).mono hM73).mono hM74).mono hM81).mono hM82)) (((((((((((((((((((((((hg.p.mono hM27).mono hM31).mono hle14).mono hle13).mono hle11).mono hle9).mono hle7).mono hM32).mono hM36).mono hM39).mono hM45).mono hM48).mono hM54).mono hM56).mono hM60).mono hM61).mono hM67).mono hM69).mono hM73).mono hM74).mono hM81).mono hM82)) lf lg (by first | omega | (dsimp only; omega))) H ?_
  clear H; rintro v85 M85 L85 w hM85 ⟨rfl, h85⟩ H
  refine ⟨_, _, hM85, H, ?_⟩
  refine Ver.nextXY 56 (by kernel_rfl) rfl (by kernel_rfl) rfl ?_
  clear H; intro w H
  refine r_call cc20 (pmul_spec (k := 2) (((((((((((((((((((((((((hf.p.mono hM22).mono hM27).mono hM31).mono hle14).mono hle13).mono hle11).mono hle9).mono hle7).mono hM32).mono hM36).mono hM39).mono hM45).mono hM48).mono hM54).mono hM56).mono hM60).mono hM61).mono hM67).mono hM69).mono hM73).mono hM74).mono hM81).mono hM82).mono hM85)) (((((((((((((((((((((((hh.p.mono hM31).mono hle14).mono hle13).mono hle11).mono hle9).mono hle7).mono hM32).mono hM36).mono hM39).mono hM45).mono hM48).mono hM54).mono hM56).mono hM60).mono hM61).mono hM67).mono hM69).mono hM73).mono hM74).mono hM81).mono hM82).mono hM85)) lf lh (by first | omega | (dsimp only; omega))) H ?_
  clear H; rintro v88 M88 L88 w hM88 ⟨rfl, h88⟩ H
  refine ⟨_, _, hM88, H, ?_⟩
  refine Ver.nextXY 57 (by kernel_rfl) rfl (by kernel_rfl) rfl ?_
  clear H; intro w H
  refine r_call cc18 (padd_spec (k := 6) ((h85.mono hM88)) (h88) (fun a b => conv_lim (k := 2) (l := 2) lf lg a b) (fun a b => conv_lim (k := 2) (l := 2) lf lh a b) (by first | omega | (dsimp only; omega))) H ?_
  clear H; rintro v89 M89 L89 w hM89 ⟨rfl, h89⟩ H
  refine ⟨_, _, hM89, H, ?_⟩
  refine Ver.nextXY 58 (by kernel_rfl) rfl (by kernel_rfl) rfl ?_
  clear H; intro w H
  refine r_call cc24 (pequalT ((((h82.mono hM85).mono hM88).mono hM89)) (h89) (conv_add f g h)) H ?_
  clear H; rintro v90 M90 L90 w hM90 ⟨rfl, rfl, rfl⟩ H
  refine ⟨_, _, hM90, H, ?_⟩
  refine Ver.read (v := .bool _) 59 rfl (by kernel_rfl) (fun M' L' w hM H => r_pickB rfl rfl rfl ⟨rfl, rfl⟩) ?_
  refine Ver.read (v := .bool _) 60 rfl (by kernel_rfl) (fun M' L' w hM H => mvB rfl ⟨rfl, rfl⟩) ?_
  refine Ver.readY (v := .agg _) 61 rfl (by kernel_rfl) rfl (fun M' L' w hM H => ldA tt24 rfl (H.ro (hM _ _ (hM89 _ _ (hM88 _ _ (hM85 _ _ (hM82 _ _ (hM81 _ _ (hM74 _ _ (hM73 _ _ (hM69 _ _ (hM67 _ _ (hM61 _ _ (hM60 _ _ (hM56 _ _ (hM54 _ _ (hM48 _ _ (hM45 _ _ (hM39 _ _ (hM36 _ _ (hM32 _ _ hb7)))))))))))))))))))) rfl (by rfl) ⟨rfl, rfl⟩) ?_
  refine Ver.readY (v := .agg _) 62 rfl (by kernel_rfl) rfl (fun M' L' w hM H => ldA tt24 rfl (H.ro (hM _ _ (hM89 _ _ (hM88 _ _ (hM85 _ _ (hM82 _ _ (hM81 _ _ (hM74 _ _ (hM73 _ _ (hM69 _ _ (hM67 _ _ (hM61 _ _ (hM60 _ _ (hM56 _ _ (hM54 _ _ (hM48 _ _ (hM45 _ _ (hM39 _ _ (hM36 _ _ (hM32 _ _ (hle7 _ _ (hle9 _ _ (hle11 _ _ hb13))))))))))))))))))))))) rfl (by rfl) ⟨rfl, rfl⟩) ?_
  refine Ver.readY (v := .agg _) 64 rfl (by kernel_rfl) rfl (fun M' L' w hM H => ldA tt24 rfl (H.ro (hM _ _ (hM89 _ _ (hM88 _ _ (hM85 _ _ (hM82 _ _ (hM81 _ _ (hM74 _ _ (hM73 _ _ (hM69 _ _ (hM67 _ _ (hM61 _ _ (hM60 _ _ (hM56 _ _ (hM54 _ _ (hM48 _ _ (hM45 _ _ (hM39 _ _ (hM36 _ _ (hM32 _ _ hb7)))))))))))))))))))) rfl (by rfl) ⟨rfl, rfl⟩) ?_
  refine Ver.nextXY 63 (by kernel_rfl) rfl (by kernel_rfl) rfl ?_
  clear H; intro w H
  refine r_call cc18 (padd_spec (k := 2) (((((((((((((((((((((((((((hf.p.mono hM22).mono hM27).mono hM31).mono hle14).mono hle13).mono hle11).mono hle9).mono hle7).mono hM32).mono hM36).mono hM39).mono hM45).mono hM48).mono hM54).mono hM56).mono hM60).mono hM61).mono hM67).mono hM69).mono hM73).mono hM74).mono hM81).mono hM82).mono hM85).mono hM88).mono hM89)) (PolyV.zero _) lf (fun _ _ => show Go.Nat32.lim 2 0 by unfold Go.Nat32.lim; decide) (by first | omega | (dsimp only; omega))) H ?_
  clear H; rintro v95 M95 L95 w hM95 ⟨rfl, h95⟩ H
  refine ⟨_, _, hM95, H, ?_⟩
  refine Ver.nextXY 65 (by kernel_rfl) rfl (by kernel_rfl) rfl ?_
  clear H; intro w H
  refine r_call cc24 (pequalT (h95) ((((((((((((((((((((((((((((hf.p.mono hM22).mono hM27).mono hM31).mono hle14).mono hle13).mono hle11).mono hle9).mono hle7).mono hM32).mono hM36).mono hM39).mono hM45).mono hM48).mono hM54).mono hM56).mono hM60).mono hM61).mono hM67).mono hM69).mono hM73).mono hM74).mono hM81).mono hM82).mono hM85).mono hM88).mono hM89).mono hM95)) (by funext a b; exact Nat.add_zero _)) H ?_
  clear H; rintro v97 M97 L97 w hM97 ⟨rfl, rfl, rfl⟩ H
  refine ⟨_, _, hM97, H, ?_⟩
  refine Ver.read (v := .bool _) 66 rfl (by kernel_rfl) (fun M' L' w hM H => r_pickB rfl rfl rfl ⟨rfl, rfl⟩) ?_
  refine Ver.read (v := .bool _) 67 rfl (by kernel_rfl) (fun M' L' w hM H => mvB rfl ⟨rfl, rfl⟩) ?_
  refine Ver.readY (v := .agg _) 68 rfl (by kernel_rfl) rfl (fun M' L' w hM H => ldA tt24 rfl (H.ro (hM _ _ (hM95 _ _ (hM89 _ _ (hM88 _ _ (hM85 _ _ (hM82 _ _ (hM81 _ _ (hM74 _ _ (hM73 _ _ (hM69 _ _ (hM67 _ _ (hM61 _ _ (hM60 _ _ (hM56 _ _ (hM54 _ _ (hM48 _ _ (hM45 _ _ (hM39 _ _ (hM36 _ _ (hM32 _ _ hb7))))))))))))))))))))) rfl (by rfl) ⟨rfl, rfl⟩) ?_
  refine Ver.readY (v := .agg _) 69 rfl (by kernel_rfl) rfl (fun M' L' w hM H => ldA tt24 rfl (H.ro (hM _ _ (hM95 _ _ (hM89 _ _ (hM88 _ _ (hM85 _ _ (hM82 _ _ (hM81 _ _ (hM74 _ _ (hM73 _ _ (hM69 _ _ (hM67 _ _ (hM61 _ _ (hM60 _ _ (hM56 _ _ (hM54 _ _ (hM48 _ _ (hM45 _ _ (hM39 _ _ (hM36 _ _ (hM32 _ _ (hle7 _ _ (hle9 _ _ (hle11 _ _ (hle13 _ _ hb14))))))))))))))))))))))))) rfl (by rfl) ⟨rfl, rfl⟩) ?_
  refine Ver.readY (v := .agg _) 71 rfl (by kernel_rfl) rfl (fun M' L' w hM H => ldA tt24 rfl (H.ro (hM _ _ (hM95 _ _ (hM89 _ _ (hM88 _ _ (hM85 _ _ (hM82 _ _ (hM81 _ _ (hM74 _ _ (hM73 _ _ (hM69 _ _ (hM67 _ _ (hM61 _ _ (hM60 _ _ (hM56 _ _ (hM54 _ _ (hM48 _ _ (hM45 _ _ (hM39 _ _ (hM36 _ _ (hM32 _ _ hb7))))))))))))))))))))) rfl (by rfl) ⟨rfl, rfl⟩) ?_
  refine Ver.nextXY 70 (by kernel_rfl) rfl (by kernel_rfl) rfl ?_
  clear H; intro w H
  refine r_call cc20 (pmul_spec (k := 2) ((((((((((((((((((((((((((((hf.p.mono hM22).mono hM27).mono hM31).mono hle14).mono hle13).mono hle11).mono hle9).mono hle7).mono hM32).mono hM36).mono hM39).mono hM45).mono hM48).mono hM54).mono hM56).mono hM60).mono hM61).mono hM67).mono hM69).mono hM73).mono hM74).mono hM81).mono hM82).mono hM85).mono hM88).mono hM89).mono hM95)) (((((((((((((((((((((((((h31.mono hle14).mono hle13).mono hle11).mono hle9).mono hle7).mono hM32).mono hM36).mono hM39).mono hM45).mono hM48).mono hM54).mono hM56).mono hM60).mono hM61).mono hM67).mono hM69).mono hM73).mono hM74).mono hM81).mono hM82).mono hM85).mono hM88).mono hM89).mono hM95)) lf (fun a b => (monoF_lim a b).mono (k' := 2) (by first | omega | (dsimp only; omega))) (by first | omega | (dsimp only; omega))) H ?_
  clear H; rintro v102 M102 L102 w hM102 ⟨rfl, h102⟩ H
  refine ⟨_, _, hM102, H, ?_⟩
  refine Ver.nextXY 72 (by kernel_rfl) rfl (by kernel_rfl) rfl ?_
  clear H; intro w H
  refine r_call cc24 (pequalT (h102) (((((((((((((((((((((((((((((hf.p.mono hM22).mono hM27).mono hM31).mono hle14).mono hle13).mono hle11).mono hle9).mono hle7).mono hM32).mono hM36).mono hM39).mono hM45).mono hM48).mono hM54).mono hM56).mono hM60).mono hM61).mono hM67).mono hM69).mono hM73).mono hM74).mono hM81).mono hM82).mono hM85).mono hM88).mono hM89).mono hM95).mono hM102)) (conv_one' hf.p.boxed)) H ?_
  clear H; rintro v104 M104 L104 w hM104 ⟨rfl, rfl, rfl⟩ H
  refine ⟨_, _, hM104, H, ?_⟩
  refine Ver.read (v := .bool _) 73 rfl (by kernel_rfl) (fun M' L' w hM H => r_pickB rfl rfl rfl ⟨rfl, rfl⟩) ?_
  refine Ver.read (v := .bool _) 74 rfl (by kernel_rfl) (fun M' L' w hM H => mvB rfl ⟨rfl, rfl⟩) ?_
  refine Ver.readY (v := .agg _) 75 rfl (by kernel_rfl) rfl (fun M' L' w hM H => ldA tt24 rfl (H.ro (hM _ _ (hM102 _ _ (hM95 _ _ (hM89 _ _ (hM88 _ _ (hM85 _ _ (hM82 _ _ (hM81 _ _ (hM74 _ _ (hM73 _ _ (hM69 _ _ (hM67 _ _ (hM61 _ _ (hM60 _ _ (hM56 _ _ (hM54 _ _ (hM48 _ _ (hM45 _ _ (hM39 _ _ (hM36 _ _ (hM32 _ _ hb7)))))))))))))))))))))) rfl (by rfl) ⟨rfl, rfl⟩) ?_
  refine Ver.readY (v := .agg _) 76 rfl (by kernel_rfl) rfl (fun M' L' w hM H => ldA tt24 rfl (H.ro (hM _ _ (hM102 _ _ (hM95 _ _ (hM89 _ _ (hM88 _ _ (hM85 _ _ (hM82 _ _ (hM81 _ _ (hM74 _ _ (hM73 _ _ (hM69 _ _ (hM67 _ _ (hM61 _ _ (hM60 _ _ (hM56 _ _ (hM54 _ _ (hM48 _ _ (hM45 _ _ (hM39 _ _ (hM36 _ _ (hM32 _ _ (hle7 _ _ (hle9 _ _ (hle11 _ _ hb13))))))))))))))))))))))))) rfl (by rfl) ⟨rfl, rfl⟩) ?_
  refine Ver.readY (v := .agg _) 78 rfl (by kernel_rfl) rfl (fun M' L' w hM H => ldA tt24 rfl (H.ro (hM _ _ (hM102 _ _ (hM95 _ _ (hM89 _ _ (hM88 _ _ (hM85 _ _ (hM82 _ _ (hM81 _ _ (hM74 _ _ (hM73 _ _ (hM69 _ _ (hM67 _ _ (hM61 _ _ (hM60 _ _ (hM56 _ _ (hM54 _ _ (hM48 _ _ (hM45 _ _ (hM39 _ _ (hM36 _ _ (hM32 _ _ (hle7 _ _ (hle9 _ _ (hle11 _ _ hb13))))))))))))))))))))))))) rfl (by rfl) ⟨rfl, rfl⟩) ?_
  refine Ver.nextXY 77 (by kernel_rfl) rfl (by kernel_rfl) rfl ?_
  clear H; intro w H
  refine r_call cc20 (pmul_spec (k := 2) (((((((((((((((((((((((((((((hf.p.mono hM22).mono hM27).mono hM31).mono hle14).mono hle13).mono hle11).mono hle9).mono hle7).mono hM32).mono hM36).mono hM39).mono hM45).mono hM48).mono hM54).mono hM56).mono hM60).mono hM61).mono hM67).mono hM69).mono hM73).mono hM74).mono hM81).mono hM82).mono hM85).mono hM88).mono hM89).mono hM95).mono hM102)) (PolyV.zero _) lf (fun _ _ => show Go.Nat32.lim 2 0 by unfold Go.Nat32.lim; decide) (by first | omega | (dsimp only; omega))) H ?_
  clear H; rintro v109 M109 L109 w hM109 ⟨rfl, h109⟩ H
  refine ⟨_, _, hM109, H, ?_⟩
  refine Ver.nextXY 79 (by kernel_rfl) rfl (by kernel_rfl) rfl ?_
  clear H; intro w H
  refine r_call cc24 (pequalT (h109) (PolyV.zero _) (conv_zero_r f)) H ?_
  clear H; rintro v111 M111 L111 w hM111 ⟨rfl, rfl, rfl⟩ H
  refine ⟨_, _, hM111, H, ?_⟩
  refine Ver.read (v := .bool _) 80 rfl (by kernel_rfl) (fun M' L' w hM H => r_pickB rfl rfl rfl ⟨rfl, rfl⟩) ?_
  refine Ver.read (v := .bool _) 81 rfl (by kernel_rfl) (fun M' L' w hM H => asB rfl ⟨rfl, rfl⟩) ?_
  refine Ver.finX (by kernel_rfl) ?_
  clear H; intro w H
  exact Goes.ret (ret1 (v := .bool _) rfl rfl rfl H.nil rfl)

end Go.Proofs.YtlcpdkckldlceaaGreatDoor
namespace Go.Proofs.YtlcpdkckldlceaaGreatDoor
open Go.Sx Go.Nat32 Go.Dec Go.PolyL Go.Lib Go.Proofs
attribute [local irreducible] pt sl itc itm
set_option maxRecDepth 100000
set_option maxHeartbeats 1000000

end Go.Proofs.YtlcpdkckldlceaaGreatDoor
namespace Go.Sx
set_option maxRecDepth 100000
theorem r_eqlBT {P : Program} {ρ : Env} {w : World} {K : Value → World → Prop} {dst ty pos aft g} {t yt : TypeId} {x y : Operand} {a b : Bool} {n by_ : Nat} {z : Value} (ht : tinfo P t = some (.bool, n, by_, z)) (hx : ρ.ev x = .bool a) (hy : ρ.ev y = .bool b) (hc : a = b) (h : K (.bool true) w) : OpRuns P ρ ⟨dst, .binOp .eql t x y yt, ty, pos, aft, g⟩ w K := by
  subst hc
  refine .ofV (s := do eqGuard .eql t x y (ρ.ev x) (ρ.ev y); Go.binOp .eql t (ρ.ev x) (ρ.ev y)) rfl ?_
  rw [hx, hy]
  refine Runs.bind ?_
  have : Runs P (eqGuard .eql t x y (.bool a) (.bool a)) w fun _ w' => w' = w := by unfold eqGuard; exact rfl
  refine this.mono ?_
  rintro _ w' rfl
  have e : Go.binOp .eql t (.bool a) (.bool a) = (do let r ← Op.equal t (.bool a) (.bool a); pure (.bool r)) := rfl
  rw [e]
  refine Runs.bind ?_
  unfold Op.equal Op.maxDepth Op.equalIn
  refine .bind (.underlying ht ?_)
  cases a <;> exact h
end Go.Sx
namespace Go.Proofs.YtlcpdkckldlceaaGreatDoor
open Go.Sx Go.Nat32 Go.Dec Go.PolyL Go.Lib Go.Proofs
attribute [local irreducible] pt sl itc itm
set_option maxRecDepth 100000
set_option maxHeartbeats 1000000
set_option linter.unusedVariables false
set_option linter.unusedSimpArgs false

theorem ringSameT {M : RO} {z : Array Value} {v u : Value} {f g : Nat → Nat → Nat} (hv : PolyV M v f) (hu : PolyV M u g) (h : f = g) :
    Sp Tryz.prog 46 [.agg z, v, u] M [] fun r M' L' => L' = [] ∧ M' = M ∧ r = .bool true := by
  refine (ringSame_spec hv hu).mono ?_
  rintro r M' L' _ ⟨rfl, rfl, t, rfl, ht⟩
  rw [ht.2 h]; exact ⟨rfl, rfl, rfl⟩

theorem ring_law {M : RO} (hT : TabM M) (hm : MaxM M) {va vb : Value} {ta tb : List (Nat × Nat × Nat)} (ha : ArgT M va ta) (hb : ArgT M vb tb) :
    Sp0 Tryz.prog 9 [va, vb] M [] fun r _ _ => r = .bool true := by
  have ha' := ha
  have hb' := hb
  obtain ⟨aa, ac, rfl, _⟩ := ha.shape
  obtain ⟨ba, bc, rfl, _⟩ := hb.shape
  refine Sp0.enter (n := 70) Tryz.func9 rfl Tryz.ntmps9 rfl ?_
  intro E hdr hE H
  subst hE
  refine Goes.seq (Goes.region ?_)
  refine GoL.stepS rfl rfl (asB rfl ?_)
  refine GoL.nil ?_
  refine Goes.seq (Goes.region ?_)
  refine GoL.stepS rfl rfl (mvL rfl ?_)
  refine GoL.stepS rfl rfl (r_call cc17 (made40_spec (most := 5) ha' (by decide)) H ?_); clear H; rintro v12 M12 L12 w hM12 ⟨rfl, p12, u12, f, rfl, hf⟩ H
  refine GoL.stepS rfl rfl (mvT rfl ?_)
  obtain ⟨q12, a12, n12, c12, rfl, rfl⟩ := hf.shapes
  refine GoL.stepS rfl rfl (r_extract rfl rfl ?_)
  refine GoL.stepS rfl rfl (r_extract rfl rfl ?_)
  refine GoL.stepS rfl rfl (r_alloc tt24 H ?_); clear H; intro b5 w hb5 H
  refine GoL.step0 rfl (stA tt24 rfl rfl H (by repeat constructor) rfl rfl (by rfl) ?_); clear H; intro w H
  refine GoL.stepS rfl rfl (asL rfl ?_)
  refine GoL.nil ?_
  refine Goes.seq (Goes.region ?_)
  refine GoL.stepS rfl rfl (mvL rfl ?_)
  refine GoL.stepS rfl rfl (r_call cc17 (made40_spec (most := 5) (hb'.mono hM12) (by decide)) H ?_); clear H; rintro v17 M17 L17 w hM17 ⟨rfl, p17, u17, g, rfl, hg⟩ H
  refine GoL.stepS rfl rfl (mvT rfl ?_)
  obtain ⟨q17, a17, n17, c17, rfl, rfl⟩ := hg.shapes
  refine GoL.stepS rfl rfl (r_extract rfl rfl ?_)
  refine GoL.stepS rfl rfl (r_extract rfl rfl ?_)
  refine GoL.stepS rfl rfl (r_alloc tt24 H ?_); clear H; intro b7 w hb7 H
  refine GoL.step0 rfl (stA tt24 rfl rfl H (by repeat constructor) rfl rfl (by rfl) ?_); clear H; intro w H
  refine GoL.stepS rfl rfl (asL rfl ?_)
  refine GoL.nil ?_
  refine Goes.seq (Goes.region ?_)
  refine GoL.stepS rfl rfl (bld (cells := []) tt76 pl76 pz76 rfl (by rfl) ?_)
  refine GoL.stepS rfl rfl (r_alloc tt76 H ?_); clear H; intro b9 w hb9 H
  refine GoL.step0 rfl (stA tt76 rfl rfl H (by repeat constructor) rfl rfl (by rfl) ?_); clear H; intro w H
  refine GoL.nil ?_
  refine Goes.seq ?_
  obtain ⟨K9, hb9, hle9, H⟩ := H.freezeX (i := 0) .head
  obtain ⟨K7, hb7, hle7, H⟩ := H.freezeX (i := 0) .head
  obtain ⟨K5, hb5, hle5, H⟩ := H.freezeX (i := 0) .head
  have lf := hf.lim
  have lg := hg.lim
  refine Goes.regionDX mixed (by kernel_rfl) 51 H ?_
  refine Ver.nextX 0 (by kernel_rfl) rfl (by kernel_rfl) ?_
  clear H; intro w H
  refine r_call0 hdr cc14 (known_spec (((((hT.mono hM12).mono hM17).mono hle9).mono hle7).mono hle5) (((((hm.mono hM12).mono hM17).mono hle9).mono hle7).mono hle5)) H ?_
  clear H; rintro v21 M21 L21 w hM21 ⟨rfl, rfl⟩ H
  refine ⟨_, _, hM21, H, ?_⟩
  refine Ver.read (v := .bool _) 1 rfl (by kernel_rfl) (fun M' L' w hM H => mvB rfl ⟨rfl, rfl⟩) ?_
  refine Ver.readY (v := .agg _) 2 rfl (by kernel_rfl) rfl (fun M' L' w hM H => ldA tt76 rfl (H.ro (hM _ _ (hM21 _ _ (hle5 _ _ (hle7 _ _ hb9))))) rfl (by rfl) ⟨rfl, rfl⟩) ?_
  refine Ver.nextXY 3 (by kernel_rfl) rfl (by kernel_rfl) rfl ?_
  clear H; intro w H
  refine r_call cc42 (ringZero_spec) H ?_
  clear H; rintro v24 M24 L24 w hM24 ⟨rfl, h24⟩ H
  refine ⟨_, _, hM24, H, ?_⟩
  refine Ver.nextXY 4 (by kernel_rfl) rfl (by kernel_rfl) rfl ?_
  clear H; intro w H
  refine r_call cc22 (zero_spec) H ?_
  clear H; rintro v25 M25 L25 w hM25 ⟨rfl, rfl, rfl⟩ H
  refine ⟨_, _, hM25, H, ?_⟩
  refine Ver.nextXY 5 (by kernel_rfl) rfl (by kernel_rfl) rfl ?_
  clear H; intro w H
  refine r_call cc24 (pequalT h24 (PolyV.zero _) rfl) H ?_
  clear H; rintro v26 M26 L26 w hM26 ⟨rfl, rfl, rfl⟩ H
  refine ⟨_, _, hM26, H, ?_⟩
  refine Ver.read (v := .bool _) 6 rfl (by kernel_rfl) (fun M' L' w hM H => r_pickB rfl rfl rfl ⟨rfl, rfl⟩) ?_
  refine Ver.read (v := .bool _) 7 rfl (by kernel_rfl) (fun M' L' w hM H => mvB rfl ⟨rfl, rfl⟩) ?_
  refine Ver.readY (v := .agg _) 8 rfl (by kernel_rfl) rfl (fun M' L' w hM H => ldA tt76 rfl (H.ro (hM _ _ (hM24 _ _ (hM21 _ _ (hle5 _ _ (hle7 _ _ hb9)))))) rfl (by rfl) ⟨rfl, rfl⟩) ?_
  refine Ver.nextXY 9 (by kernel_rfl) rfl (by kernel_rfl) rfl ?_
  clear H; intro w H
  refine r_call cc43 (ringOne_spec) H ?_
  clear H; rintro v30 M30 L30 w hM30 ⟨rfl, h30⟩ H
  refine ⟨_, _, hM30, H, ?_⟩
  refine Ver.nextXY 10 (by kernel_rfl) rfl (by kernel_rfl) rfl ?_
  clear H; intro w H
  refine r_call cc23 (one_spec) H ?_
  clear H; rintro v31 M31 L31 w hM31 ⟨rfl, h31⟩ H
  refine ⟨_, _, hM31, H, ?_⟩
  refine Ver.nextXY 11 (by kernel_rfl) rfl (by kernel_rfl) rfl ?_
  clear H; intro w H
  refine r_call cc24 (pequalT (h30.mono hM31) h31 rfl) H ?_
  clear H; rintro v32 M32 L32 w hM32 ⟨rfl, rfl, rfl⟩ H
  refine ⟨_, _, hM32, H, ?_⟩
  refine Ver.read (v := .bool _) 12 rfl (by kernel_rfl) (fun M' L' w hM H => r_pickB rfl rfl rfl ⟨rfl, rfl⟩) ?_
  refine Ver.read (v := .bool _) 13 rfl (by kernel_rfl) (fun M' L' w hM H => mvB rfl ⟨rfl, rfl⟩) ?_
  refine Ver.readY (v := .agg _) 14 rfl (by kernel_rfl) rfl (fun M' L' w hM H => ldA tt76 rfl (H.ro (hM _ _ (hM31 _ _ (hM30 _ _ (hM24 _ _ (hM21 _ _ (hle5 _ _ (hle7 _ _ hb9)))))))) rfl (by rfl) ⟨rfl, rfl⟩) ?_
  refine Ver.readY (v := .agg _) 15 rfl (by kernel_rfl) rfl (fun M' L' w hM H => ldA tt24 rfl (H.ro (hM _ _ (hM31 _ _ (hM30 _ _ (hM24 _ _ (hM21 _ _ hb5)))))) rfl (by rfl) ⟨rfl, rfl⟩) ?_
  refine Ver.readY (v := .agg _) 16 rfl (by kernel_rfl) rfl (fun M' L' w hM H => ldA tt24 rfl (H.ro (hM _ _ (hM31 _ _ (hM30 _ _ (hM24 _ _ (hM21 _ _ (hle5 _ _ hb7))))))) rfl (by rfl) ⟨rfl, rfl⟩) ?_
  refine Ver.readY (v := .agg _) 18 rfl (by kernel_rfl) rfl (fun M' L' w hM H => ldA tt24 rfl (H.ro (hM _ _ (hM31 _ _ (hM30 _ _ (hM24 _ _ (hM21 _ _ hb5)))))) rfl (by rfl) ⟨rfl, rfl⟩) ?_
  refine Ver.readY (v := .agg _) 19 rfl (by kernel_rfl) rfl (fun M' L' w hM H => ldA tt24 rfl (H.ro (hM _ _ (hM31 _ _ (hM30 _ _ (hM24 _ _ (hM21 _ _ (hle5 _ _ hb7))))))) rfl (by rfl) ⟨rfl, rfl⟩) ?_
  refine Ver.nextXY 17 (by kernel_rfl) rfl (by kernel_rfl) rfl ?_
  clear H; intro w H
  refine r_call cc44 (ringAdd_spec (k := 2) ((((((((hf.p.mono hM17).mono hle9).mono hle7).mono hle5).mono hM21).mono hM24).mono hM30).mono hM31) (((((((hg.p.mono hle9).mono hle7).mono hle5).mono hM21).mono hM24).mono hM30).mono hM31) lf lg (by first | omega | (dsimp only; omega))) H ?_
  clear H; rintro v38 M38 L38 w hM38 ⟨rfl, h38⟩ H
  refine ⟨_, _, hM38, H, ?_⟩
  refine Ver.nextXY 20 (by kernel_rfl) rfl (by kernel_rfl) rfl ?_
  clear H; intro w H
  refine r_call cc18 (padd_spec (k := 2) (((((((((hf.p.mono hM17).mono hle9).mono hle7).mono hle5).mono hM21).mono hM24).mono hM30).mono hM31).mono hM38) ((((((((hg.p.mono hle9).mono hle7).mono hle5).mono hM21).mono hM24).mono hM30).mono hM31).mono hM38) lf lg (by first | omega | (dsimp only; omega))) H ?_
  clear H; rintro v41 M41 L41 w hM41 ⟨rfl, h41⟩ H
  refine ⟨_, _, hM41, H, ?_⟩
  refine Ver.nextXY 21 (by kernel_rfl) rfl (by kernel_rfl) rfl ?_
  clear H; intro w H
  refine r_call cc24 (pequalT (h38.mono hM41) h41 rfl) H ?_
  clear H; rintro v42 M42 L42 w hM42 ⟨rfl, rfl, rfl⟩ H
  refine ⟨_, _, hM42, H, ?_⟩
  refine Ver.read (v := .bool _) 22 rfl (by kernel_rfl) (fun M' L' w hM H => r_pickB rfl rfl rfl ⟨rfl, rfl⟩) ?_
  refine Ver.read (v := .bool _) 23 rfl (by kernel_rfl) (fun M' L' w hM H => mvB rfl ⟨rfl, rfl⟩) ?_
  refine Ver.readY (v := .agg _) 24 rfl (by kernel_rfl) rfl (fun M' L' w hM H => ldA tt76 rfl (H.ro (hM _ _ (hM41 _ _ (hM38 _ _ (hM31 _ _ (hM30 _ _ (hM24 _ _ (hM21 _ _ (hle5 _ _ (hle7 _ _ hb9)))))))))) rfl (by rfl) ⟨rfl, rfl⟩) ?_
  refine Ver.readY (v := .agg _) 25 rfl (by kernel_rfl) rfl (fun M' L' w hM H => ldA tt24 rfl (H.ro (hM _ _ (hM41 _ _ (hM38 _ _ (hM31 _ _ (hM30 _ _ (hM24 _ _ (hM21 _ _ hb5)))))))) rfl (by rfl) ⟨rfl, rfl⟩) ?_
  refine Ver.readY (v := .agg _) 26 rfl (by kernel_rfl) rfl (fun M' L' w hM H => ldA tt24 rfl (H.ro (hM _ _ (hM41 _ _ (hM38 _ _ (hM31 _ _ (hM30 _ _ (hM24 _ _ (hM21 _ _ (hle5 _ _ hb7))))))))) rfl (by rfl) ⟨rfl, rfl⟩) ?_
  refine Ver.readY (v := .agg _) 28 rfl (by kernel_rfl) rfl (fun M' L' w hM H => ldA tt24 rfl (H.ro (hM _ _ (hM41 _ _ (hM38 _ _ (hM31 _ _ (hM30 _ _ (hM24 _ _ (hM21 _ _ hb5)))))))) rfl (by rfl) ⟨rfl, rfl⟩) ?_
  refine Ver.readY (v := .agg _) 29 rfl (by kernel_rfl) rfl (fun M' L' w hM H => ldA tt24 rfl (H.ro (hM _ _ (hM41 _ _ (hM38 _ _ (hM31 _ _ (hM30 _ _ (hM24 _ _ (hM21 _ _ (hle5 _ _ hb7))))))))) rfl (by rfl) ⟨rfl, rfl⟩) ?_
  refine Ver.nextXY 27 (by kernel_rfl) rfl (by kernel_rfl) rfl ?_
  clear H; intro w H
  refine r_call cc45 (ringMul_spec (k := 2) ((((((((((hf.p.mono hM17).mono hle9).mono hle7).mono hle5).mono hM21).mono hM24).mono hM30).mono hM31).mono hM38).mono hM41) (((((((((hg.p.mono hle9).mono hle7).mono hle5).mono hM21).mono hM24).mono hM30).mono hM31).mono hM38).mono hM41) lf lg (by first | omega | (dsimp only; omega))) H ?_
  clear H; rintro v48 M48 L48 w hM48 ⟨rfl, h48⟩ H
  refine ⟨_, _, hM48, H, ?_⟩
  refine Ver.nextXY 30 (by kernel_rfl) rfl (by kernel_rfl) rfl ?_
  clear H; intro w H
  refine r_call cc20 (pmul_spec (k := 2) (((((((((((hf.p.mono hM17).mono hle9).mono hle7).mono hle5).mono hM21).mono hM24).mono hM30).mono hM31).mono hM38).mono hM41).mono hM48) ((((((((((hg.p.mono hle9).mono hle7).mono hle5).mono hM21).mono hM24).mono hM30).mono hM31).mono hM38).mono hM41).mono hM48) lf lg (by first | omega | (dsimp only; omega))) H ?_
  clear H; rintro v51 M51 L51 w hM51 ⟨rfl, h51⟩ H
  refine ⟨_, _, hM51, H, ?_⟩
  refine Ver.nextXY 31 (by kernel_rfl) rfl (by kernel_rfl) rfl ?_
  clear H; intro w H
  refine r_call cc24 (pequalT (h48.mono hM51) h51 rfl) H ?_
  clear H; rintro v52 M52 L52 w hM52 ⟨rfl, rfl, rfl⟩ H
  refine ⟨_, _, hM52, H, ?_⟩
  refine Ver.read (v := .bool _) 32 rfl (by kernel_rfl) (fun M' L' w hM H => r_pickB rfl rfl rfl ⟨rfl, rfl⟩) ?_
  refine Ver.read (v := .bool _) 33 rfl (by kernel_rfl) (fun M' L' w hM H => mvB rfl ⟨rfl, rfl⟩) ?_
  refine Ver.readY (v := .agg _) 34 rfl (by kernel_rfl) rfl (fun M' L' w hM H => ldA tt76 rfl (H.ro (hM _ _ (hM51 _ _ (hM48 _ _ (hM41 _ _ (hM38 _ _ (hM31 _ _ (hM30 _ _ (hM24 _ _ (hM21 _ _ (hle5 _ _ (hle7 _ _ hb9)))))))))))) rfl (by rfl) ⟨rfl, rfl⟩) ?_
  refine Ver.readY (v := .agg _) 35 rfl (by kernel_rfl) rfl (fun M' L' w hM H => ldA tt24 rfl (H.ro (hM _ _ (hM51 _ _ (hM48 _ _ (hM41 _ _ (hM38 _ _ (hM31 _ _ (hM30 _ _ (hM24 _ _ (hM21 _ _ hb5)))))))))) rfl (by rfl) ⟨rfl, rfl⟩) ?_
  refine Ver.readY (v := .agg _) 36 rfl (by kernel_rfl) rfl (fun M' L' w hM H => ldA tt24 rfl (H.ro (hM _ _ (hM51 _ _ (hM48 _ _ (hM41 _ _ (hM38 _ _ (hM31 _ _ (hM30 _ _ (hM24 _ _ (hM21 _ _ (hle5 _ _ hb7))))))))))) rfl (by rfl) ⟨rfl, rfl⟩) ?_
  refine Ver.readY (v := .agg _) 38 rfl (by kernel_rfl) rfl (fun M' L' w hM H => ldA tt24 rfl (H.ro (hM _ _ (hM51 _ _ (hM48 _ _ (hM41 _ _ (hM38 _ _ (hM31 _ _ (hM30 _ _ (hM24 _ _ (hM21 _ _ hb5)))))))))) rfl (by rfl) ⟨rfl, rfl⟩) ?_
  refine Ver.readY (v := .agg _) 39 rfl (by kernel_rfl) rfl (fun M' L' w hM H => ldA tt24 rfl (H.ro (hM _ _ (hM51 _ _ (hM48 _ _ (hM41 _ _ (hM38 _ _ (hM31 _ _ (hM30 _ _ (hM24 _ _ (hM21 _ _ (hle5 _ _ hb7))))))))))) rfl (by rfl) ⟨rfl, rfl⟩) ?_
  refine Ver.nextXY 37 (by kernel_rfl) rfl (by kernel_rfl) rfl ?_
  clear H; intro w H
  refine r_call cc46 (ringSame_spec ((((((((((((hf.p.mono hM17).mono hle9).mono hle7).mono hle5).mono hM21).mono hM24).mono hM30).mono hM31).mono hM38).mono hM41).mono hM48).mono hM51) (((((((((((hg.p.mono hle9).mono hle7).mono hle5).mono hM21).mono hM24).mono hM30).mono hM31).mono hM38).mono hM41).mono hM48).mono hM51)) H ?_
  clear H; rintro v58 M58 L58 w hM58 ⟨rfl, rfl, t58, rfl, ht58⟩ H
  refine ⟨_, _, hM58, H, ?_⟩
  refine Ver.nextXY 40 (by kernel_rfl) rfl (by kernel_rfl) rfl ?_
  clear H; intro w H
  refine r_call cc24 (pequal_spec ((((((((((((hf.p.mono hM17).mono hle9).mono hle7).mono hle5).mono hM21).mono hM24).mono hM30).mono hM31).mono hM38).mono hM41).mono hM48).mono hM51) (((((((((((hg.p.mono hle9).mono hle7).mono hle5).mono hM21).mono hM24).mono hM30).mono hM31).mono hM38).mono hM41).mono hM48).mono hM51)) H ?_
  clear H; rintro v61 M61 L61 w hM61 ⟨rfl, rfl, t61, rfl, ht61⟩ H
  refine ⟨_, _, hM61, H, ?_⟩
  refine Ver.readY (v := .bool _) 41 rfl (by kernel_rfl) rfl (fun M' L' w hM H => r_eqlBT tt4 rfl rfl (Bool.eq_iff_iff.2 (ht58.trans ht61.symm)) ⟨rfl, rfl⟩) ?_
  refine Ver.read (v := .bool _) 42 rfl (by kernel_rfl) (fun M' L' w hM H => r_pickB rfl rfl rfl ⟨rfl, rfl⟩) ?_
  refine Ver.read (v := .bool _) 43 rfl (by kernel_rfl) (fun M' L' w hM H => mvB rfl ⟨rfl, rfl⟩) ?_
  refine Ver.readY (v := .agg _) 44 rfl (by kernel_rfl) rfl (fun M' L' w hM H => ldA tt76 rfl (H.ro (hM _ _ (hM51 _ _ (hM48 _ _ (hM41 _ _ (hM38 _ _ (hM31 _ _ (hM30 _ _ (hM24 _ _ (hM21 _ _ (hle5 _ _ (hle7 _ _ hb9)))))))))))) rfl (by rfl) ⟨rfl, rfl⟩) ?_
  refine Ver.readY (v := .agg _) 45 rfl (by kernel_rfl) rfl (fun M' L' w hM H => ldA tt24 rfl (H.ro (hM _ _ (hM51 _ _ (hM48 _ _ (hM41 _ _ (hM38 _ _ (hM31 _ _ (hM30 _ _ (hM24 _ _ (hM21 _ _ hb5)))))))))) rfl (by rfl) ⟨rfl, rfl⟩) ?_
  refine Ver.readY (v := .agg _) 46 rfl (by kernel_rfl) rfl (fun M' L' w hM H => ldA tt24 rfl (H.ro (hM _ _ (hM51 _ _ (hM48 _ _ (hM41 _ _ (hM38 _ _ (hM31 _ _ (hM30 _ _ (hM24 _ _ (hM21 _ _ hb5)))))))))) rfl (by rfl) ⟨rfl, rfl⟩) ?_
  refine Ver.nextXY 47 (by kernel_rfl) rfl (by kernel_rfl) rfl ?_
  clear H; intro w H
  refine r_call cc46 (ringSameT ((((((((((((hf.p.mono hM17).mono hle9).mono hle7).mono hle5).mono hM21).mono hM24).mono hM30).mono hM31).mono hM38).mono hM41).mono hM48).mono hM51) ((((((((((((hf.p.mono hM17).mono hle9).mono hle7).mono hle5).mono hM21).mono hM24).mono hM30).mono hM31).mono hM38).mono hM41).mono hM48).mono hM51) rfl) H ?_
  clear H; rintro v68 M68 L68 w hM68 ⟨rfl, rfl, rfl⟩ H
  refine ⟨_, _, hM68, H, ?_⟩
  refine Ver.read (v := .bool _) 48 rfl (by kernel_rfl) (fun M' L' w hM H => r_pickB rfl rfl rfl ⟨rfl, rfl⟩) ?_
  refine Ver.read (v := .bool _) 49 rfl (by kernel_rfl) (fun M' L' w hM H => asB rfl ⟨rfl, rfl⟩) ?_
  refine Ver.finX (by kernel_rfl) ?_
  clear H; intro w H
  exact Goes.ret (ret1 (v := .bool _) rfl rfl rfl H.nil rfl)

end Go.Proofs.YtlcpdkckldlceaaGreatDoor
namespace Go.Proofs.YtlcpdkckldlceaaGreatDoor
open Go.Sx Go.Nat32 Go.Dec Go.PolyL Go.Lib Go.Proofs
attribute [local irreducible] pt sl itc itm
set_option maxRecDepth 100000
set_option linter.unusedVariables false
set_option linter.unusedSimpArgs false
set_option maxHeartbeats 1000000

theorem kl_nodup {ks : List (Nat × Nat)} (h : ks.Pairwise kl) : ks.Nodup := h.imp fun {a b} hk e => by
  subst e
  unfold kl at hk
  omega
theorem text_parse {f : Nat → Nat → Nat} {s : List UInt8} (hb : Boxed f) (ht : TextOf f s) {c : Int} {ok : (Nat → Nat → Nat) → Prop} (h : ParseR s c ok) : c = 0 ∧ ok f := by
  obtain ⟨ks, h1, h2, rfl⟩ := ht
  by_cases h0 : ks = []
  · subst h0
    have hz : f = fun _ _ => 0 := by
      funext a b
      by_cases h3 : f a b = 0
      · exact h3
      · exact absurd ((h2 (a, b)).2 h3) (by simp)
    have hs : textK f [] = [48] := rfl
    rw [hs] at h
    rcases h with ⟨_, hc, ho⟩ | ⟨L, hT, hs2, _⟩ | ⟨h3, _⟩
    · rw [hz]; exact ⟨hc, ho⟩
    · exact absurd hs2.symm (terms_ne48 hT)
    · exact absurd rfl h3
  · obtain ⟨hL0, hs⟩ := textK_terms hb h1 h2 h0
    rw [hs] at h
    rcases h with ⟨h3, _⟩ | ⟨L, hT, hs2, h⟩ | ⟨_, h3, _⟩
    · exact absurd h3 (terms_ne48 hL0)
    · have hL := textT_inj hL0.ne hT.ne hL0.ok hT.ok hs2
      subst hL
      have hf : fOf (ks.map fun k => (f k.1 k.2, k.1, k.2)) = f := by
        funext a b
        unfold fOf
        rw [sumL_map]
        have e : (sumL ks fun k => if k.1 = a ∧ k.2 = b then f k.1 k.2 else 0) = sumL ks fun k => if k = (a, b) then f a b else 0 := by
          refine sumL_congr fun k _ => ?_
          by_cases hk : k.1 = a ∧ k.2 = b
          · rw [if_pos hk, if_pos (Prod.ext hk.1 hk.2), hk.1, hk.2]
          · rw [if_neg hk, if_neg (fun e => hk (by rw [e]; exact ⟨rfl, rfl⟩))]
        refine e.trans ?_
        rw [sumL_ite (kl_nodup h1)]
        by_cases hab : f a b = 0
        · rw [hab]; split <;> rfl
        · rw [if_pos ((h2 (a, b)).2 hab)]
      rcases h with ⟨_, hc, ho⟩ | ⟨h4, _⟩
      · exact ⟨hc, hf ▸ ho⟩
      · refine absurd (fun t ht => ?_) h4
        obtain ⟨k, hk, rfl⟩ := List.mem_map.1 ht
        exact hb _ _ ((h2 k).1 hk)
    · exact absurd ⟨_, hL0, rfl⟩ h3
theorem Made.textLen {M : RO} {v u : Value} {f : Nat → Nat → Nat} {most : Nat} (h : Made M v u f most 8) {s : List UInt8} (ht : TextOf f s) : s.length ≤ 2000 := by
  obtain ⟨ks, h1, h2, rfl⟩ := ht
  obtain ⟨a, c, l, _, _, _, hr, hl⟩ := h.r
  have hks : ks = l.map (·.2) := sorted_uniq h1 (List.pairwise_map.2 hr.asc) fun k => by
    rw [h2]
    constructor
    · intro hk
      obtain ⟨t, ht, e⟩ := hr.all k.1 k.2 hk
      exact List.mem_map.2 ⟨t, ht, e⟩
    · intro hk
      obtain ⟨t, ht, rfl⟩ := List.mem_map.1 hk
      exact (hr.val t ht).1
  have hlen : ks.length ≤ 8 := by rw [hks, List.length_map]; exact hl
  unfold textK
  split
  · simp
  · have hj := join_len (l := ks.map fun k => termL (f k.1 k.2) k.1 k.2) (sep := plusL) (m := 11 + 17) (fun x hx => by
      obtain ⟨k, hk, rfl⟩ := List.mem_map.1 hx
      have hb := h.p.boxed _ _ ((h2 k).1 hk)
      exact termL_len (h.lt _ _) (by omega) (by omega))
    rw [List.length_map] at hj
    have hp : plusL.length = 3 := rfl
    rw [hp] at hj
    unfold termsL
    omega

theorem texts_law {M : RO} (hT : TabM M) (hm : MaxM M) {va vb : Value} {ta tb : List (Nat × Nat × Nat)} {small : Bool} (ha : ArgT M va ta) (hb : ArgT M vb tb) :
    Sp0 Tryz.prog 7 [va, vb, .bool small] M [] fun r _ _ => r = .bool true := by
  have ha' := ha
  have hb' := hb
  obtain ⟨aa, ac, rfl, _⟩ := ha.shape
  obtain ⟨ba, bc, rfl, _⟩ := hb.shape
  refine Sp0.enter (n := 63) Tryz.func7 rfl Tryz.ntmps7 rfl ?_
  intro E hdr hE H
  subst hE
  refine Goes.seq (Goes.region ?_)
  refine GoL.stepS rfl rfl (asB rfl ?_)
  refine GoL.nil ?_
  refine Goes.seq (Goes.region ?_)
  refine GoL.stepS rfl rfl (asI rfl ?_)
  refine GoL.nil ?_
  refine Goes.seq (Goes.seq (Goes.region ?_))
  refine GoL.stepS rfl rfl (mvB rfl ?_)
  refine GoL.nil ?_
  refine Goes.cutT [7] [(7, .int .i64 2048)] (fun (most : Nat) => [(7, .int .i64 (most : Int))]) (fun most w => most ≤ 2048 ∧ Hp E E.M [] w) ⟨rfl, trivial⟩ ?aft ?cut
  case cut =>
    intro f0 meet
    refine Goes.cond rfl (fun hs => ?_) (fun hs => ?_)
    · refine Goes.region ?_
      refine GoL.stepS rfl rfl (asI rfl ?_)
      refine GoL.nil ?_
      exact meet 1 _ _ ⟨rfl, trivial⟩ (.of_strip (by kernel_rfl)) ⟨by decide, H⟩
    · refine Goes.skip ?_
      exact meet 2048 _ _ ⟨rfl, trivial⟩ (.of_strip (by kernel_rfl)) ⟨Nat.le_refl _, H⟩
  case aft =>
    clear H
    rintro most f1 w ⟨hmost, H⟩
    refine Goes.seq (Goes.region ?_)
    refine GoL.stepS rfl rfl (mvL rfl ?_)
    refine GoL.stepS rfl rfl (mvI rfl ?_)
    refine GoL.stepS rfl rfl (r_call cc17 (made40_spec ha' hmost) H ?_); clear H; rintro v18 M18 L18 w hM18 ⟨rfl, p18, u18, f, rfl, hf⟩ H
    refine GoL.stepS rfl rfl (mvT rfl ?_)
    obtain ⟨q18, a18, n18, c18, rfl, rfl⟩ := hf.shapes
    refine GoL.stepS rfl rfl (r_extract rfl rfl ?_)
    refine GoL.stepS rfl rfl (r_extract rfl rfl ?_)
    refine GoL.stepS rfl rfl (r_alloc tt24 H ?_); clear H; intro b8 w hb8 H
    refine GoL.step0 rfl (stA tt24 rfl rfl H (by repeat constructor) rfl rfl (by rfl) ?_); clear H; intro w H
    refine GoL.stepS rfl rfl (asL rfl ?_)
    refine GoL.nil ?_
    refine Goes.seq (Goes.region ?_)
    refine GoL.stepS rfl rfl (mvL rfl ?_)
    refine GoL.stepS rfl rfl (mvI rfl ?_)
    refine GoL.stepS rfl rfl (r_call cc17 (made40_spec (hb'.mono hM18) hmost) H ?_); clear H; rintro v24 M24 L24 w hM24 ⟨rfl, p24, u24, g, rfl, hg⟩ H
    refine GoL.stepS rfl rfl (mvT rfl ?_)
    obtain ⟨q24, a24, n24, c24, rfl, rfl⟩ := hg.shapes
    have lf := hf.lim
    have lg := hg.lim
    refine GoL.stepS rfl rfl (r_extract rfl rfl ?_)
    refine GoL.stepS rfl rfl (r_extract rfl rfl ?_)
    refine GoL.stepS rfl rfl (r_alloc tt24 H ?_); clear H; intro b10 w hb10 H
    refine GoL.step0 rfl (stA tt24 rfl rfl H (by repeat constructor) rfl rfl (by rfl) ?_); clear H; intro w H
    refine GoL.stepS rfl rfl (asL rfl ?_)
    refine GoL.nil ?_
    refine Goes.seq (Goes.region ?_)
    refine GoL.stepS rfl rfl (ldA tt24 rfl (H.own (by repeat constructor)) rfl (by rfl) ?_)
    refine GoL.stepS rfl rfl (r_call0 hdr cc16 (textOf_spec ((hT.mono hM18).mono hM24) (hf.p.mono hM24) lf (by first | omega | (dsimp only; omega))) H ?_); clear H; rintro v29 M29 L29 w hM29 ⟨rfl, s29, rfl, ht29⟩ H
    refine GoL.stepS rfl rfl (r_call0 hdr cc12 (pparse_spec (((hm.mono hM18).mono hM24).mono hM29) (hf.textLen ht29)) H ?_); clear H; rintro v30 M30 L30 w hM30 ⟨rfl, v30, c30, rfl, h30⟩ H
    refine GoL.stepS rfl rfl (mvT rfl ?_)
    obtain ⟨hc30, hp30⟩ := text_parse hf.p.boxed ht29 h30
    clear h30
    subst hc30
    obtain ⟨q30, rfl⟩ := hp30.shape
    refine GoL.stepS rfl rfl (r_extract rfl rfl ?_)
    refine GoL.stepS rfl rfl (r_extract rfl rfl ?_)
    refine GoL.stepS rfl rfl (r_alloc tt24 H ?_); clear H; intro b12 w hb12 H
    refine GoL.step0 rfl (stA tt24 rfl rfl H (by repeat constructor) rfl rfl (by rfl) ?_); clear H; intro w H
    refine GoL.stepS rfl rfl (asI rfl ?_)
    refine GoL.nil ?_
    refine Goes.seq ?_
    obtain ⟨K12, hb12, hle12, H⟩ := H.freezeX (i := 0) .head
    obtain ⟨K10, hb10, hle10, H⟩ := H.freezeX (i := 0) .head
    obtain ⟨K8, hb8, hle8, H⟩ := H.freezeX (i := 0) .head
    refine Goes.regionDX mixed (by kernel_rfl) 32 H ?_
    refine Ver.nextX 0 (by kernel_rfl) rfl (by kernel_rfl) ?_
    clear H; intro w H
    refine r_call0 hdr cc14 (known_spec (((((((hT.mono hM18).mono hM24).mono hM29).mono hM30).mono hle12).mono hle10).mono hle8) (((((((hm.mono hM18).mono hM24).mono hM29).mono hM30).mono hle12).mono hle10).mono hle8)) H ?_
    clear H; rintro v33 M33 L33 w hM33 ⟨rfl, rfl⟩ H
    refine ⟨_, _, hM33, H, ?_⟩
    refine Ver.read (v := .bool _) 1 rfl (by kernel_rfl) (fun M' L' w hM H => mvB rfl ⟨rfl, rfl⟩) ?_
    refine Ver.readY (v := .agg _) 2 rfl (by kernel_rfl) rfl (fun M' L' w hM H => ldA tt24 rfl (H.ro (hM _ _ (hM33 _ _ hb8))) rfl (by rfl) ⟨rfl, rfl⟩) ?_
    refine Ver.readY (v := .agg _) 3 rfl (by kernel_rfl) rfl (fun M' L' w hM H => ldA tt24 rfl (H.ro (hM _ _ (hM33 _ _ (hle8 _ _ hb10)))) rfl (by rfl) ⟨rfl, rfl⟩) ?_
    refine Ver.readY (v := .slice _ _ _) 5 rfl (by kernel_rfl) rfl (fun M' L' w hM H => mvL rfl ⟨rfl, rfl⟩) ?_
    refine Ver.readY (v := .slice _ _ _) 6 rfl (by kernel_rfl) rfl (fun M' L' w hM H => mvL rfl ⟨rfl, rfl⟩) ?_
    refine Ver.nextXY 4 (by kernel_rfl) rfl (by kernel_rfl) rfl ?_
    clear H; intro w H
    refine r_call cc24 (pequal_spec (((((((hf.p.mono hM24).mono hM29).mono hM30).mono hle12).mono hle10).mono hle8).mono hM33) ((((((hg.p.mono hM29).mono hM30).mono hle12).mono hle10).mono hle8).mono hM33)) H ?_
    clear H; rintro v37 M37 L37 w hM37 ⟨rfl, rfl, t37, rfl, ht37⟩ H
    refine ⟨_, _, hM37, H, ?_⟩
    refine Ver.nextXY 7 (by kernel_rfl) rfl (by kernel_rfl) rfl ?_
    clear H; intro w H
    refine r_call cc34 (rsame_spec (k := 11) (((((((hf.r.mono hM24).mono hM29).mono hM30).mono hle12).mono hle10).mono hle8).mono hM33) ((((((hg.r.mono hM29).mono hM30).mono hle12).mono hle10).mono hle8).mono hM33) (by first | omega | (dsimp only; omega)) hf.lt hg.lt (by first | omega | (dsimp only; omega))) H ?_
    clear H; rintro v40 M40 L40 w hM40 ⟨rfl, t40, rfl, ht40⟩ H
    refine ⟨_, _, hM40, H, ?_⟩
    refine Ver.readY (v := .bool _) 8 rfl (by kernel_rfl) rfl (fun M' L' w hM H => r_eqlBT tt4 rfl rfl (Bool.eq_iff_iff.2 (ht37.trans ht40.symm)) ⟨rfl, rfl⟩) ?_
    refine Ver.read (v := .bool _) 9 rfl (by kernel_rfl) (fun M' L' w hM H => r_pickB rfl rfl rfl ⟨rfl, rfl⟩) ?_
    refine Ver.read (v := .bool _) 10 rfl (by kernel_rfl) (fun M' L' w hM H => mvB rfl ⟨rfl, rfl⟩) ?_
    refine Ver.readY (v := .agg _) 11 rfl (by kernel_rfl) rfl (fun M' L' w hM H => ldA tt24 rfl (H.ro (hM _ _ (hM40 _ _ (hM33 _ _ hb8)))) rfl (by rfl) ⟨rfl, rfl⟩) ?_
    refine Ver.readY (v := .agg _) 12 rfl (by kernel_rfl) rfl (fun M' L' w hM H => ldA tt24 rfl (H.ro (hM _ _ (hM40 _ _ (hM33 _ _ (hle8 _ _ hb10))))) rfl (by rfl) ⟨rfl, rfl⟩) ?_
    refine Ver.readY (v := .agg _) 14 rfl (by kernel_rfl) rfl (fun M' L' w hM H => ldA tt24 rfl (H.ro (hM _ _ (hM40 _ _ (hM33 _ _ hb8)))) rfl (by rfl) ⟨rfl, rfl⟩) ?_
    refine Ver.readY (v := .agg _) 16 rfl (by kernel_rfl) rfl (fun M' L' w hM H => ldA tt24 rfl (H.ro (hM _ _ (hM40 _ _ (hM33 _ _ (hle8 _ _ hb10))))) rfl (by rfl) ⟨rfl, rfl⟩) ?_
    refine Ver.nextXY 13 (by kernel_rfl) rfl (by kernel_rfl) rfl ?_
    clear H; intro w H
    refine r_call cc24 (pequal_spec ((((((((hf.p.mono hM24).mono hM29).mono hM30).mono hle12).mono hle10).mono hle8).mono hM33).mono hM40) (((((((hg.p.mono hM29).mono hM30).mono hle12).mono hle10).mono hle8).mono hM33).mono hM40)) H ?_
    clear H; rintro v46 M46 L46 w hM46 ⟨rfl, rfl, t46, rfl, ht46⟩ H
    refine ⟨_, _, hM46, H, ?_⟩
    refine Ver.nextXY 15 (by kernel_rfl) rfl (by kernel_rfl) rfl ?_
    clear H; intro w H
    refine r_call0 hdr cc16 (textOf_spec (((((((((hT.mono hM18).mono hM24).mono hM29).mono hM30).mono hle12).mono hle10).mono hle8).mono hM33).mono hM40) ((((((((hf.p.mono hM24).mono hM29).mono hM30).mono hle12).mono hle10).mono hle8).mono hM33).mono hM40) lf (by first | omega | (dsimp only; omega))) H ?_
    clear H; rintro v48 M48 L48 w hM48 ⟨rfl, s48, rfl, ht48⟩ H
    refine ⟨_, _, hM48, H, ?_⟩
    refine Ver.nextXY 17 (by kernel_rfl) rfl (by kernel_rfl) rfl ?_
    clear H; intro w H
    refine r_call0 hdr cc16 (textOf_spec ((((((((((hT.mono hM18).mono hM24).mono hM29).mono hM30).mono hle12).mono hle10).mono hle8).mono hM33).mono hM40).mono hM48) ((((((((hg.p.mono hM29).mono hM30).mono hle12).mono hle10).mono hle8).mono hM33).mono hM40).mono hM48) lg (by first | omega | (dsimp only; omega))) H ?_
    clear H; rintro v50 M50 L50 w hM50 ⟨rfl, s50, rfl, ht50⟩ H
    refine ⟨_, _, hM50, H, ?_⟩
    refine Ver.readY (v := (.bool (s48 == s50))) 18 rfl (by kernel_rfl) rfl (fun M' L' w hM H => r_eqlS (a := s48) (b := s50) rfl rfl ⟨rfl, rfl⟩) ?_
    refine Ver.readY (v := .bool _) 19 rfl (by kernel_rfl) rfl (fun M' L' w hM H => r_eqlBT tt4 rfl rfl (Bool.eq_iff_iff.2 (ht46.trans ⟨fun e => by subst e; exact beq_iff_eq.2 (ht48.uniq ht50), fun e => by have := beq_iff_eq.1 e; subst this; exact ht48.inj ht50 hf.p.boxed hg.p.boxed⟩)) ⟨rfl, rfl⟩) ?_
    refine Ver.read (v := .bool _) 20 rfl (by kernel_rfl) (fun M' L' w hM H => r_pickB rfl rfl rfl ⟨rfl, rfl⟩) ?_
    refine Ver.read (v := .bool _) 21 rfl (by kernel_rfl) (fun M' L' w hM H => mvB rfl ⟨rfl, rfl⟩) ?_
    refine Ver.readY (v := .int _ _) 22 rfl (by kernel_rfl) rfl (fun M' L' w hM H => mvI rfl ⟨rfl, rfl⟩) ?_
    refine Ver.readY (v := .bool _) 23 rfl (by kernel_rfl) rfl (fun M' L' w hM H => r_eqlT rfl rfl rfl ⟨rfl, rfl⟩) ?_
    refine Ver.read (v := .bool _) 24 rfl (by kernel_rfl) (fun M' L' w hM H => r_pickB rfl rfl rfl ⟨rfl, rfl⟩) ?_
    refine Ver.read (v := .bool _) 25 rfl (by kernel_rfl) (fun M' L' w hM H => mvB rfl ⟨rfl, rfl⟩) ?_
    refine Ver.readY (v := .agg _) 26 rfl (by kernel_rfl) rfl (fun M' L' w hM H => ldA tt24 rfl (H.ro (hM _ _ (hM50 _ _ (hM48 _ _ (hM40 _ _ (hM33 _ _ (hle8 _ _ (hle10 _ _ hb12)))))))) rfl (by rfl) ⟨rfl, rfl⟩) ?_
    refine Ver.readY (v := .agg _) 27 rfl (by kernel_rfl) rfl (fun M' L' w hM H => ldA tt24 rfl (H.ro (hM _ _ (hM50 _ _ (hM48 _ _ (hM40 _ _ (hM33 _ _ hb8)))))) rfl (by rfl) ⟨rfl, rfl⟩) ?_
    refine Ver.nextXY 28 (by kernel_rfl) rfl (by kernel_rfl) rfl ?_
    clear H; intro w H
    refine r_call cc24 (pequalT (((((((hp30.mono hle12).mono hle10).mono hle8).mono hM33).mono hM40).mono hM48).mono hM50) ((((((((((hf.p.mono hM24).mono hM29).mono hM30).mono hle12).mono hle10).mono hle8).mono hM33).mono hM40).mono hM48).mono hM50) rfl) H ?_
    clear H; rintro v61 M61 L61 w hM61 ⟨rfl, rfl, rfl⟩ H
    refine ⟨_, _, hM61, H, ?_⟩
    refine Ver.read (v := .bool _) 29 rfl (by kernel_rfl) (fun M' L' w hM H => r_pickB rfl rfl rfl ⟨rfl, rfl⟩) ?_
    refine Ver.read (v := .bool _) 30 rfl (by kernel_rfl) (fun M' L' w hM H => asB rfl ⟨rfl, rfl⟩) ?_
    refine Ver.finX (by kernel_rfl) ?_
    clear H; intro w H
    exact Goes.ret (ret1 (v := .bool _) rfl rfl rfl H.nil rfl)

end Go.Proofs.YtlcpdkckldlceaaGreatDoor
namespace Go.Proofs.YtlcpdkckldlceaaGreatDoor.texts
open Go.Sx Go.ChangeShapes Go.WideShapes Go.ChangeAt Go.RowKit
set_option maxRecDepth 100000

/-- WHAT THE WALK GIVES, FOR EVERY ARGUMENT AND EVERY WORLD. -/
theorem contract (H : Type) (enc : TypeId × Value → H) (W : World) (base : Nat) (args : Array Value) (ds gs : List (DataW H)) (before : List MemPlace)
    (hval : ∀ (j : Nat) t v, Tryz.f7.params[j]? = some t → args[j]? = some v → Value.okWide Tryz.prog W .any base t v)
    (hW : DataW.Whole enc Tryz.prog Tryz.f7.params.toList Rows.polynomialTextsSpec.vars false W args.toList ds gs before) (hL : laidMetH Tryz.prog Rows.polynomialTextsRow.laid W) (hsh : W.ShapedOpen Tryz.prog) :
    Calls Tryz.prog 7 args W fun e W' => ∃ v, e = .returned v ∧ Rows.polynomialTextsSpec.post enc Tryz.prog Tryz.f7 false true false false W args v W' := by
  have hW' := hW
  obtain ⟨p, q, hA, hV, rfl, hfz, hnd⟩ := hW
  rw [Tryz.params7] at hA hval
  have hA : DataW.TrodAll enc Tryz.prog W 0 (fun _ => true) true [36, 36, 4] args.toList ds p := hA
  obtain ⟨v0, vs0, d0, ds0, p0, q0, hargs, rfl, rfl, h0, r0⟩ := trodAll_cons hA
  obtain ⟨v1, vs1, d1, ds1, p1, q1, rfl, rfl, rfl, h1, r1⟩ := trodAll_cons r0
  obtain ⟨v2, vs2, d2, ds2, p2, q2, rfl, rfl, rfl, h2, r2⟩ := trodAll_cons r1
  obtain ⟨rfl, rfl, rfl⟩ := trodAll_nil r2
  obtain rfl : args = #[v0, v1, v2] := by cases args; simp_all
  obtain ⟨t0, a0⟩ := argT_of (hval 0 36 v0 rfl rfl) h0
  obtain ⟨t1, a1⟩ := argT_of (hval 1 36 v1 rfl rfl) h1
  obtain ⟨b2, rfl, rfl, rfl⟩ := open_bool Tryz.underlying4 (hval 2 4 v2 rfl rfl) h2
  have hT : TabM (ofW W) := tabM_of hL
  refine (Sp0.world (texts_law hT (maxM_of hsh) a0 a1 (small := b2))).mono fun e W' ⟨he, hS, hos, hout⟩ => ?_
  subst he
  exact ⟨_, rfl, post_true (L := [36, 70, 68, 45, 4, 51, 62, 3, 46, 9]) hS (by kernel_rfl) (by rw [Tryz.params7]; decide) hos hout hW' rfl (tb := 4) (by kernel_rfl) Tryz.underlying4 rfl⟩

theorem reads (os : Os) {H : Type} (enc : TypeId × Value → H) : ∃ places, DataW.whole enc Tryz.prog (startW os #[.slice none 0 0, .slice none 0 0, .bool false]).memory Tryz.f7.params.toList Rows.polynomialTextsSpec.vars false #[Value.slice none 0 0, .slice none 0 0, .bool false].toList 8 = some ([.nil, .nil, .lit (.bool false)], [], places) :=
  ⟨[], by kernel_rfl⟩

theorem lifted (os : Os) (started : os.Started) (H : Type) (enc : TypeId × Value → H) (F : Stop.Interp) :
    ReturnsInHanded {} Tryz.checked os 7 .any ((OpenSpec.ofChange Rows.polynomialTextsSpec).preRow enc Tryz.prog Tryz.f7 Rows.polynomialTextsRow.domain false Rows.polynomialTextsRow.laid) (((OpenSpec.ofChange Rows.polynomialTextsSpec).at F).post enc Tryz.prog Tryz.f7 false true false false) := by
  obtain ⟨places, hx⟩ := reads os enc
  refine returnsInHanded_of_row (C := Tryz.checked) (s := OpenSpec.ofChange Rows.polynomialTextsSpec) ownK started (by kernel_rfl) Tryz.func7
    (witness_row_at (enc := enc) (C := Tryz.checked) false (laidWorld os) #[.slice none 0 0, .slice none 0 0, .bool false] rfl (by kernel_rfl) (by kernel_rfl) (by kernel_rfl)
      (OpenSpec.preRow_of_cond 8 hx (by kernel_rfl) (fun k hk => by cases hk) (by kernel_rfl) (laid_met os _))) ?_
  intro W base args ds gs before hval hW _ _ _ hL hsh _
  exact contract H enc W base args ds gs before hval hW hL hsh

theorem said : Rows.PolynomialTextsSaid :=
  OpenClaim.holds_of_cond 7 Tryz.f7 rfl rfl rfl rfl rfl rfl rfl ⟨rfl, rfl, rfl, rfl, rfl⟩ rfl rfl rfl rfl rfl (by kernel_rfl) Tryz.func7 (by kernel_rfl)
    (of_decide_eq_true (by kernel_rfl)) (by unfold Func.isWrapper; first | (rw [if_pos (by decide +kernel)]; kernel_rfl) | (rw [if_neg (by decide +kernel)]; exact ⟨rfl, rfl⟩))
    (fun os started H enc _ F => by rw [OpenClaim.pre_eq_preRow]; exact lifted os started H enc F)

/-- No parameter wants a stand-in; the program's own looks. -/
theorem plain (f : FuncId) (fn : Func) (hf : Tryz.pinned.checked.prog.funcNamed "palmette/palmettelaw40.PolynomialTexts" = some f) (hfn : Tryz.pinned.checked.prog.funcs[f]? = some fn) :
    true = Tryz.pinned.checked.prog.looks [] ∧ ∀ (j : Nat) t, fn.params[j]? = some t → Tryz.pinned.checked.prog.wantsStandIn t = false := by
  obtain rfl : f = 7 := Option.some.inj ((show Tryz.prog.funcNamed "palmette/palmettelaw40.PolynomialTexts" = some 7 by kernel_rfl).symm.trans hf) |>.symm
  obtain rfl : fn = Tryz.f7 := (Option.some.inj (Tryz.func7.symm.trans hfn)).symm
  refine ⟨by kernel_rfl, fun j t ht => ?_⟩
  have hall : (#[36, 36, 4] : Array TypeId).all (fun t => Tryz.prog.wantsStandIn t == false) = true := by kernel_rfl
  rw [Tryz.params7] at ht
  have := Array.all_eq_true_iff_forall_mem.1 hall t (Array.mem_of_getElem? ht)
  exact (show Tryz.prog.wantsStandIn t = false by simpa using this)

/-- THE CARD. -/
theorem card : Rows.PolynomialTextsCardSaid :=
  Claim7.holds_tied_plain_at .later [] _ _ _ _ said (fun _ h => by cases h) (by kernel_rfl) (fun _ h => by cases h) polynomialTexts_row_tie rfl ⟨rfl, rfl⟩ (by kernel_rfl) rfl plain (by kernel_rfl)
end Go.Proofs.YtlcpdkckldlceaaGreatDoor.texts
