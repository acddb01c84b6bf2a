/-
  The statement PolynomialSumProduct holds for every input, the listed library variables holding what their initialisers lay: it returns true and leaves its arguments as they were.
-/
import Derived.Test.YtlcpdkckldlceaaGreatDoorFL
import Derived.Test.YtlcpdkckldlceaaGreatDoorFM
import Derived.Test.YtlcpdkckldlceaaGreatDoorRows
import Derived.SevenTiedAt
import Derived.JoinedCond
namespace Go.Proofs.YtlcpdkckldlceaaGreatDoor
open Go.Sx Go.Nat32 Go.Dec Go.PolyL Go.Lib Go.Proofs
attribute [local irreducible] pt sl itc itm
set_option maxRecDepth 100000
set_option linter.unusedVariables false
set_option linter.unusedSimpArgs false
set_option maxHeartbeats 1000000

theorem conv_lt {f g : Nat → Nat → Nat} {k : Nat} (hf : ∀ a b, f a b < 10 ^ k) (hg : ∀ a b, g a b < 10 ^ k) (a b : Nat) : conv f g a b < 10 ^ (2 * k + 14) := by
  have h1 := conv_le (f := f) (g := g) (c := 10 ^ k * 10 ^ k) (fun a b d e => Nat.mul_le_mul (Nat.le_of_lt (hf a b)) (Nat.le_of_lt (hg d e))) a b
  have h2 : (10 : Nat) ^ (2 * k + 14) = 10 ^ k * 10 ^ k * 100000000000000 := by
    rw [Nat.pow_add, Nat.two_mul, Nat.pow_add]
  have h3 : 0 < 10 ^ k * 10 ^ k := Nat.mul_pos (Nat.pow_pos (by decide)) (Nat.pow_pos (by decide))
  rw [h2]
  generalize 10 ^ k * 10 ^ k = z at *
  omega
theorem conv_lim {f g : Nat → Nat → Nat} {k l : Nat} (hf : ∀ a b, lim k (f a b)) (hg : ∀ a b, lim l (g a b)) (a b : Nat) : lim (k + l + 2) (conv f g a b) := by
  have h1 := conv_le (f := f) (g := g) (c := 4294967296 ^ k * 4294967296 ^ l) (fun a b d e => Nat.mul_le_mul (Nat.le_of_lt (hf a b)) (Nat.le_of_lt (hg d e))) a b
  unfold lim
  have h2 : (4294967296 : Nat) ^ (k + l + 2) = 4294967296 ^ k * 4294967296 ^ l * 18446744073709551616 := by
    rw [Nat.pow_add, Nat.pow_add]
  have h3 : 0 < 4294967296 ^ k * 4294967296 ^ l := Nat.mul_pos (Nat.pow_pos (by decide)) (Nat.pow_pos (by decide))
  rw [h2]
  generalize 4294967296 ^ k * 4294967296 ^ l = z at *
  omega

theorem Made.shapes {M : RO} {v u : Value} {f : Nat → Nat → Nat} {most m : Nat} (h : Made M v u f most m) : ∃ q a n c, v = .agg #[.map q] ∧ u = .slice a n c := by
  obtain ⟨q, hq⟩ := h.p.shape
  obtain ⟨a, n, c, hu⟩ := h.r.shape
  exact ⟨q, a, n, c, hq, hu⟩

theorem sumProduct_law {M : RO} (hT : TabM M) (hm : MaxM M) {va vb : Value} {ta tb : List (Nat × Nat × Nat)} {small : Bool} (ha : ArgT M va ta) (hb : ArgT M vb tb) :
    Sp0 Tryz.prog 4 [va, vb, .bool small] M [] fun r _ _ => r = .bool true := by
  have ha' := ha
  have hb' := hb
  obtain ⟨aa, ac, rfl, _⟩ := ha.shape
  obtain ⟨ba, bc, rfl, _⟩ := hb.shape
  refine Sp0.enter (n := 54) Tryz.func4 rfl Tryz.ntmps4 rfl ?_
  intro E hdr hE H
  subst hE
  refine Goes.seq (Goes.region ?_)
  refine GoL.stepS rfl rfl (asB rfl ?_)
  refine GoL.nil ?_
  refine Goes.seq (Goes.region ?_)
  refine GoL.stepS rfl rfl (asI rfl ?_)
  refine GoL.nil ?_
  refine Goes.seq (Goes.seq (Goes.region ?_))
  refine GoL.stepS rfl rfl (mvB rfl ?_)
  refine GoL.nil ?_
  refine Goes.cutT [7] [(7, .int .i64 2048)] (fun (most : Nat) => [(7, .int .i64 (most : Int))]) (fun most w => most ≤ 2048 ∧ Hp E E.M [] w) ⟨rfl, trivial⟩ ?aft ?cut
  case cut =>
    intro f0 meet
    refine Goes.cond rfl (fun hs => ?_) (fun hs => ?_)
    · refine Goes.region ?_
      refine GoL.stepS rfl rfl (asI rfl ?_)
      refine GoL.nil ?_
      exact meet 3 _ _ ⟨rfl, trivial⟩ (.of_strip (by kernel_rfl)) ⟨by decide, H⟩
    · refine Goes.skip ?_
      exact meet 2048 _ _ ⟨rfl, trivial⟩ (.of_strip (by kernel_rfl)) ⟨Nat.le_refl _, H⟩
  case aft =>
    clear H
    rintro most f1 w ⟨hmost, H⟩
    refine Goes.seq (Goes.region ?_)
    refine GoL.stepS rfl rfl (mvL rfl ?_)
    refine GoL.stepS rfl rfl (mvI rfl ?_)
    refine GoL.stepS rfl rfl (r_call cc17 (made40_spec ha' hmost) H ?_); clear H; rintro v16 M16 L16 w hM16 ⟨rfl, p16, u16, f, rfl, hf⟩ H
    obtain ⟨q16, a16, n16, c16, rfl, rfl⟩ := hf.shapes
    refine GoL.stepS rfl rfl (mvT rfl ?_)
    refine GoL.stepS rfl rfl (r_extract rfl rfl ?_)
    refine GoL.stepS rfl rfl (r_extract rfl rfl ?_)
    refine GoL.stepS rfl rfl (r_alloc tt24 H ?_); clear H; intro b8 w hb8 H
    refine GoL.step0 rfl (stA tt24 rfl rfl H (by repeat constructor) rfl rfl (by rfl) ?_); clear H; intro w H
    refine GoL.stepS rfl rfl (asL rfl ?_)
    refine GoL.nil ?_
    refine Goes.seq (Goes.region ?_)
    refine GoL.stepS rfl rfl (mvL rfl ?_)
    refine GoL.stepS rfl rfl (mvI rfl ?_)
    refine GoL.stepS rfl rfl (r_call cc17 (made40_spec (hb'.mono hM16) hmost) H ?_); clear H; rintro v22 M22 L22 w hM22 ⟨rfl, p22, u22, g, rfl, hg⟩ H
    obtain ⟨q22, a22, n22, c22, rfl, rfl⟩ := hg.shapes
    have hf := hf.mono hM22
    have hfg : ∀ a b, f a b + g a b < 10 ^ 12 := fun a b => by
      have h1 := hf.lt a b
      have h2 := hg.lt a b
      have h3 : (10 : Nat) ^ 11 = 100000000000 := rfl
      have h4 : (10 : Nat) ^ 12 = 1000000000000 := rfl
      rw [h3] at h1 h2; rw [h4]; omega
    have gT : TabM M22 := (hT.mono hM16).mono hM22
    have gle : ∀ {A B C D F G J : RO}, A.le B → B.le C → C.le D → D.le F → F.le G → G.le J → A.le J := fun h1 h2 h3 h4 h5 h6 b o h => h6 _ _ (h5 _ _ (h4 _ _ (h3 _ _ (h2 _ _ (h1 _ _ h)))))
    refine GoL.stepS rfl rfl (mvT rfl ?_)
    refine GoL.stepS rfl rfl (r_extract rfl rfl ?_)
    refine GoL.stepS rfl rfl (r_extract rfl rfl ?_)
    refine GoL.stepS rfl rfl (r_alloc tt24 H ?_); clear H; intro b10 w hb10 H
    refine GoL.step0 rfl (stA tt24 rfl rfl H (by repeat constructor) rfl rfl (by rfl) ?_); clear H; intro w H
    refine GoL.stepS rfl rfl (asL rfl ?_)
    refine GoL.nil ?_
    refine Goes.seq (Goes.region ?_)
    refine GoL.stepS rfl rfl (r_call0 hdr cc14 (known_spec ((hT.mono hM16).mono hM22) ((hm.mono hM16).mono hM22)) H ?_); clear H; rintro v25 M25 L25 w hM25 ⟨rfl, rfl⟩ H
    refine GoL.stepS rfl rfl (mvB rfl ?_)
    refine GoL.stepYS rfl rfl rfl (ldA tt24 rfl (H.own (by repeat constructor)) rfl (by rfl) ?_)
    refine GoL.stepYS rfl rfl rfl (ldA tt24 rfl (H.own (by repeat constructor)) rfl (by rfl) ?_)
    refine GoL.stepYS rfl rfl rfl (r_call cc18 (padd_spec (hf.p.mono hM25) (hg.p.mono hM25) hf.lim hg.lim (by first | omega | (dsimp only; omega))) H ?_); clear H; rintro v29 M29 L29 w hM29 ⟨rfl, h29⟩ H
    refine GoL.stepYS rfl rfl rfl (mvL rfl ?_)
    refine GoL.stepYS rfl rfl rfl (mvL rfl ?_)
    refine GoL.stepYS rfl rfl rfl (r_call cc19 (radd40_spec (((hf.r.mono hM25)).mono hM29) ((hg.r.mono hM25).mono hM29) (k := 12) (by first | omega | (dsimp only; omega)) hfg (by first | omega | (dsimp only; omega))) H ?_); clear H; rintro v32 M32 L32 w hM32 ⟨rfl, h32⟩ H
    refine GoL.stepYS rfl rfl rfl (r_call0 hdr cc15 (alike_spec (((gT.mono hM25).mono hM29).mono hM32) (h29.mono hM32) h32 (k := 12) (by first | omega | (dsimp only; omega)) hfg (by first | omega | (dsimp only; omega))) H ?_); clear H; rintro v33 M33 L33 w hM33 ⟨rfl, rfl⟩ H
    refine GoL.stepS rfl rfl (r_pickB rfl rfl rfl ?_)
    refine GoL.stepS rfl rfl (mvB rfl ?_)
    refine GoL.stepYS rfl rfl rfl (ldA tt24 rfl (H.own (by repeat constructor)) rfl (by rfl) ?_)
    refine GoL.stepYS rfl rfl rfl (ldA tt24 rfl (H.own (by repeat constructor)) rfl (by rfl) ?_)
    refine GoL.stepYS rfl rfl rfl (r_call cc20 (pmul_spec (((((hf.p.mono hM25).mono hM29).mono hM32)).mono hM33) ((((hg.p.mono hM25).mono hM29).mono hM32).mono hM33) hf.lim hg.lim (by first | omega | (dsimp only; omega))) H ?_); clear H; rintro v38 M38 L38 w hM38 ⟨rfl, h38⟩ H
    refine GoL.stepYS rfl rfl rfl (mvL rfl ?_)
    refine GoL.stepYS rfl rfl rfl (mvL rfl ?_)
    refine GoL.stepYS rfl rfl rfl (r_call cc21 (rmul40_spec (((((hf.r.mono hM25).mono hM29).mono hM32).mono hM33).mono hM38) (((((hg.r.mono hM25).mono hM29).mono hM32).mono hM33).mono hM38) (k := 11) (by first | omega | (dsimp only; omega)) hf.lt hg.lt (by first | omega | (dsimp only; omega)) (by first | omega | (dsimp only; omega))) H ?_); clear H; rintro v41 M41 L41 w hM41 ⟨rfl, h41⟩ H
    refine GoL.stepYS rfl rfl rfl (r_call0 hdr cc15 (alike_spec ((((((gT.mono hM25).mono hM29).mono hM32).mono hM33).mono hM38).mono hM41) (h38.mono hM41) h41 (k := 36) (by first | omega | (dsimp only; omega)) (conv_lt (k := 11) hf.lt hg.lt) (by first | omega | (dsimp only; omega))) H ?_); clear H; rintro v42 M42 L42 w hM42 ⟨rfl, rfl⟩ H
    refine GoL.stepS rfl rfl (r_pickB rfl rfl rfl ?_)
    refine GoL.stepS rfl rfl (mvB rfl ?_)
    refine GoL.stepYS rfl rfl rfl (ldA tt24 rfl (H.own (by repeat constructor)) rfl (by rfl) ?_)
    refine GoL.stepYS rfl rfl rfl (mvL rfl ?_)
    refine GoL.stepYS rfl rfl rfl (r_call0 hdr cc15 (alike_spec ((gT.mono (gle hM25 hM29 hM32 hM33 hM38 hM41)).mono hM42) ((hf.p.mono (gle hM25 hM29 hM32 hM33 hM38 hM41)).mono hM42) ((hf.r.mono (gle hM25 hM29 hM32 hM33 hM38 hM41)).mono hM42) (k := 11) (by first | omega | (dsimp only; omega)) hf.lt (by first | omega | (dsimp only; omega))) H ?_); clear H; rintro v47 M47 L47 w hM47 ⟨rfl, rfl⟩ H
    refine GoL.stepS rfl rfl (r_pickB rfl rfl rfl ?_)
    refine GoL.stepS rfl rfl (mvB rfl ?_)
    refine GoL.stepYS rfl rfl rfl (ldA tt24 rfl (H.own (by repeat constructor)) rfl (by rfl) ?_)
    refine GoL.stepYS rfl rfl rfl (mvL rfl ?_)
    refine GoL.stepYS rfl rfl rfl (r_call0 hdr cc15 (alike_spec (((gT.mono (gle hM25 hM29 hM32 hM33 hM38 hM41)).mono hM42).mono hM47) (((hg.p.mono (gle hM25 hM29 hM32 hM33 hM38 hM41)).mono hM42).mono hM47) (((hg.r.mono (gle hM25 hM29 hM32 hM33 hM38 hM41)).mono hM42).mono hM47) (k := 11) (by first | omega | (dsimp only; omega)) hg.lt (by first | omega | (dsimp only; omega))) H ?_); clear H; rintro v52 M52 L52 w hM52 ⟨rfl, rfl⟩ H
    refine GoL.stepS rfl rfl (r_pickB rfl rfl rfl ?_)
    refine GoL.stepS rfl rfl (asB rfl ?_)
    refine GoL.nil ?_
    exact Goes.ret (ret1 (v := .bool _) rfl rfl rfl H.nil rfl)

end Go.Proofs.YtlcpdkckldlceaaGreatDoor
namespace Go.Proofs.YtlcpdkckldlceaaGreatDoor.sumProduct
open Go.Sx Go.ChangeShapes Go.WideShapes Go.ChangeAt Go.RowKit
set_option maxRecDepth 100000

/-- WHAT THE WALK GIVES, FOR EVERY ARGUMENT AND EVERY WORLD. -/
theorem contract (H : Type) (enc : TypeId × Value → H) (W : World) (base : Nat) (args : Array Value) (ds gs : List (DataW H)) (before : List MemPlace)
    (hval : ∀ (j : Nat) t v, Tryz.f4.params[j]? = some t → args[j]? = some v → Value.okWide Tryz.prog W .any base t v)
    (hW : DataW.Whole enc Tryz.prog Tryz.f4.params.toList Rows.polynomialSumProductSpec.vars false W args.toList ds gs before) (hL : laidMetH Tryz.prog Rows.polynomialSumProductRow.laid W) (hsh : W.ShapedOpen Tryz.prog) :
    Calls Tryz.prog 4 args W fun e W' => ∃ v, e = .returned v ∧ Rows.polynomialSumProductSpec.post enc Tryz.prog Tryz.f4 false true false false W args v W' := by
  have hW' := hW
  obtain ⟨p, q, hA, hV, rfl, hfz, hnd⟩ := hW
  rw [Tryz.params4] at hA hval
  have hA : DataW.TrodAll enc Tryz.prog W 0 (fun _ => true) true [36, 36, 4] args.toList ds p := hA
  obtain ⟨v0, vs0, d0, ds0, p0, q0, hargs, rfl, rfl, h0, r0⟩ := trodAll_cons hA
  obtain ⟨v1, vs1, d1, ds1, p1, q1, rfl, rfl, rfl, h1, r1⟩ := trodAll_cons r0
  obtain ⟨v2, vs2, d2, ds2, p2, q2, rfl, rfl, rfl, h2, r2⟩ := trodAll_cons r1
  obtain ⟨rfl, rfl, rfl⟩ := trodAll_nil r2
  obtain rfl : args = #[v0, v1, v2] := by cases args; simp_all
  obtain ⟨t0, a0⟩ := argT_of (hval 0 36 v0 rfl rfl) h0
  obtain ⟨t1, a1⟩ := argT_of (hval 1 36 v1 rfl rfl) h1
  obtain ⟨s, rfl, rfl, rfl⟩ := open_bool Tryz.underlying4 (hval 2 4 v2 rfl rfl) h2
  have hT : TabM (ofW W) := tabM_of hL
  refine (Sp0.world (sumProduct_law hT (maxM_of hsh) (small := s) a0 a1)).mono fun e W' ⟨he, hS, hos, hout⟩ => ?_
  subst he
  exact ⟨_, rfl, post_true (L := [36, 70, 68, 45, 4]) hS (by kernel_rfl) (by rw [Tryz.params4]; decide) hos hout hW' rfl (tb := 4) (by kernel_rfl) Tryz.underlying4 rfl⟩

theorem reads (os : Os) {H : Type} (enc : TypeId × Value → H) : ∃ places, DataW.whole enc Tryz.prog (startW os #[.slice none 0 0, .slice none 0 0, .bool false]).memory Tryz.f4.params.toList Rows.polynomialSumProductSpec.vars false #[Value.slice none 0 0, .slice none 0 0, .bool false].toList 8 = some ([.nil, .nil, .lit (.bool false)], [], places) :=
  ⟨[], by kernel_rfl⟩

theorem lifted (os : Os) (started : os.Started) (H : Type) (enc : TypeId × Value → H) (F : Stop.Interp) :
    ReturnsInHanded {} Tryz.checked os 4 .any ((OpenSpec.ofChange Rows.polynomialSumProductSpec).preRow enc Tryz.prog Tryz.f4 Rows.polynomialSumProductRow.domain false Rows.polynomialSumProductRow.laid) (((OpenSpec.ofChange Rows.polynomialSumProductSpec).at F).post enc Tryz.prog Tryz.f4 false true false false) := by
  obtain ⟨places, hx⟩ := reads os enc
  refine returnsInHanded_of_row (C := Tryz.checked) (s := OpenSpec.ofChange Rows.polynomialSumProductSpec) ownK started (by kernel_rfl) Tryz.func4
    (witness_row_at (enc := enc) (C := Tryz.checked) false (laidWorld os) #[.slice none 0 0, .slice none 0 0, .bool false] rfl (by kernel_rfl) (by kernel_rfl) (by kernel_rfl)
      (OpenSpec.preRow_of_cond 8 hx (by kernel_rfl) (fun k hk => by cases hk) (by kernel_rfl) (laid_met os _))) ?_
  intro W base args ds gs before hval hW _ _ _ hL hsh _
  exact contract H enc W base args ds gs before hval hW hL hsh

theorem said : Rows.PolynomialSumProductSaid :=
  OpenClaim.holds_of_cond 4 Tryz.f4 rfl rfl rfl rfl rfl rfl rfl ⟨rfl, rfl, rfl, rfl, rfl⟩ rfl rfl rfl rfl rfl (by kernel_rfl) Tryz.func4 (by kernel_rfl)
    (of_decide_eq_true (by kernel_rfl)) (by unfold Func.isWrapper; first | (rw [if_pos (by decide +kernel)]; kernel_rfl) | (rw [if_neg (by decide +kernel)]; exact ⟨rfl, rfl⟩))
    (fun os started H enc _ F => by rw [OpenClaim.pre_eq_preRow]; exact lifted os started H enc F)

/-- No parameter wants a stand-in; the program's own looks are off. -/
theorem plain (f : FuncId) (fn : Func) (hf : Tryz.pinned.checked.prog.funcNamed "palmette/palmettelaw40.PolynomialSumProduct" = some f) (hfn : Tryz.pinned.checked.prog.funcs[f]? = some fn) :
    true = Tryz.pinned.checked.prog.looks [] ∧ ∀ (j : Nat) t, fn.params[j]? = some t → Tryz.pinned.checked.prog.wantsStandIn t = false := by
  obtain rfl : f = 4 := Option.some.inj ((show Tryz.prog.funcNamed "palmette/palmettelaw40.PolynomialSumProduct" = some 4 by kernel_rfl).symm.trans hf) |>.symm
  obtain rfl : fn = Tryz.f4 := (Option.some.inj (Tryz.func4.symm.trans hfn)).symm
  refine ⟨by kernel_rfl, fun j t ht => ?_⟩
  have hall : (#[36, 36, 4] : Array TypeId).all (fun t => Tryz.prog.wantsStandIn t == false) = true := by kernel_rfl
  rw [Tryz.params4] at ht
  have := Array.all_eq_true_iff_forall_mem.1 hall t (Array.mem_of_getElem? ht)
  exact (show Tryz.prog.wantsStandIn t = false by simpa using this)

/-- THE CARD. -/
theorem card : Rows.PolynomialSumProductCardSaid :=
  Claim7.holds_tied_plain_at .later [] _ _ _ _ said (fun _ h => by cases h) (by kernel_rfl) (fun _ h => by cases h) polynomialSumProduct_row_tie rfl ⟨rfl, rfl⟩ (by kernel_rfl) rfl plain (by kernel_rfl)
end Go.Proofs.YtlcpdkckldlceaaGreatDoor.sumProduct
