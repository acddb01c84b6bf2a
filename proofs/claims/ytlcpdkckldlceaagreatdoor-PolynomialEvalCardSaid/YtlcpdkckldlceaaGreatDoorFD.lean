/-
  What the functions of bignat return: the numbers.
-/
import Derived.Test.YtlcpdkckldlceaaGreatDoorFT
import Derived.Test.YtlcpdkckldlceaaGreatDoorFC
import Derived.DeepKeys5
namespace Go.Proofs.YtlcpdkckldlceaaGreatDoor
open Go.Sx Go.Nat32
attribute [local irreducible] pt sl itc
set_option maxRecDepth 100000

theorem isZero_spec {M : RO} {a : Option Addr} {n c : Nat} : Sp Tryz.prog 74 [.agg #[.slice a n c]] M [] fun v M' L' => L' = [] ∧ M' = M ∧ v = .bool (decide (n = 0)) := by
  refine Sp.enter (n := 7) Tryz.func74 rfl Tryz.ntmps74 rfl ?_
  intro E hE H
  subst hE
  refine Goes.seq (Goes.region ?_)
  refine GoL.stepS rfl rfl (bxA rfl H ?_); clear H; intro b1 w hb1 H
  refine GoL.stepS rfl rfl (asB rfl ?_)
  refine GoL.nil ?_
  refine Goes.seq (Goes.region ?_)
  first | refine GoL.stepS rfl rfl (r_fieldAddr0 fo49_0 rfl ?_) | refine GoL.stepS rfl rfl (r_fieldAddr fo49_0 rfl ?_)
  refine GoL.stepS rfl rfl (ldL tt47 rfl (H.own (by repeat constructor)) (by rfl) ?_)
  refine GoL.stepS rfl rfl (r_lenSlice tt47 rfl ?_)
  refine GoL.stepS rfl rfl (r_eql rfl rfl ?_)
  refine GoL.stepS rfl rfl (asB rfl ?_)
  refine GoL.nil ?_
  refine Goes.ret (ret1 (v := .bool _) rfl rfl rfl H.nil ⟨rfl, rfl, ?_⟩)
  have : ((n : Int) == 0) = decide (n = 0) := by rw [Bool.eq_iff_iff]; simp
  rw [this]

theorem word_spec {M : RO} {a : Option Addr} {n c : Nat} {ws : List Nat} (h : Row32 M a n c ws) (i : Nat) : Sp Tryz.prog 83 [.agg #[.slice a n c], .int .i64 (i : Int)] M [] fun v M' L' => L' = [] ∧ M' = M ∧ v = .int .u64 ((ws.getD i 0 : Nat) : Int) := by
  refine Sp.enter (n := 16) Tryz.func83 rfl Tryz.ntmps83 rfl ?_
  intro E hE H
  subst hE
  have hlen := h.len
  refine Goes.seq (Goes.region ?_)
  refine GoL.stepS rfl rfl (bxA rfl H ?_); clear H; intro b2 w hb2 H
  refine GoL.stepS rfl rfl (asI rfl ?_)
  refine GoL.nil ?_
  refine Goes.seq (Goes.seq (Goes.region ?_))
  refine GoL.stepS rfl rfl (mvI rfl ?_)
  first | refine GoL.stepS rfl rfl (r_fieldAddr0 fo49_0 rfl ?_) | refine GoL.stepS rfl rfl (r_fieldAddr fo49_0 rfl ?_)
  refine GoL.stepS rfl rfl (ldL tt47 rfl (H.own (by repeat constructor)) (by rfl) ?_)
  refine GoL.stepS rfl rfl (r_lenSlice tt47 rfl ?_)
  refine GoL.stepS rfl rfl (r_geq rfl rfl ?_)
  refine GoL.nil ?_
  refine Goes.cond rfl (fun hc => ?_) (fun hc => ?_)
  · refine Goes.seq (Goes.region ?_)
    refine GoL.stepS rfl rfl (asI rfl ?_)
    refine GoL.nil ?_
    refine Goes.ret (ret1 (v := .int _ _) rfl rfl rfl H.nil ⟨rfl, rfl, ?_⟩)
    have : n ≤ i := by simpa using hc
    rw [List.getD_eq_getElem?_getD, List.getElem?_eq_none (by omega)]; rfl
  · have hi : i < n := by simpa using hc
    obtain ⟨b, o, cs, e, z, rfl, hM, hv⟩ := h.at hi
    have hsm : ws.getD i 0 < 4294967296 := by
      have : i < ws.length := by omega
      rw [List.getD_eq_getElem?_getD, List.getElem?_eq_getElem this]
      exact h.small _ (by simp)
    refine Goes.skip (Goes.seq (Goes.region ?_))
    first | refine GoL.stepS rfl rfl (r_fieldAddr0 fo49_0 rfl ?_) | refine GoL.stepS rfl rfl (r_fieldAddr fo49_0 rfl ?_)
    refine GoL.stepS rfl rfl (ldL tt47 rfl (H.own (by repeat constructor)) (by rfl) ?_)
    refine GoL.stepS rfl rfl (mvI rfl ?_)
    refine GoL.stepS rfl rfl (r_indexAddrN tt47 tt68 rfl rfl (by omega) ?_)
    refine GoL.stepS rfl rfl (ldI tt68 rfl (H.ro hM) (by rw [Nat.mul_one]; exact hv) ?_)
    first | refine GoL.stepS rfl rfl (r_cv_u64 tt68 tt51 rfl (by omega) (by omega) ?_) | refine GoL.stepS rfl rfl (r_convInt tt68 tt51 rfl ?_)
    refine GoL.stepS rfl rfl (asI rfl ?_)
    refine GoL.nil ?_
    exact Goes.ret (ret1 (v := .int _ _) rfl rfl rfl H.nil ⟨rfl, rfl, rfl⟩)


theorem trim_spec {M : RO} {a : Option Addr} {n c : Nat} {ws : List Nat} (h : Row32 M a n c ws) : Sp Tryz.prog 72 [.slice a n c] M [] fun v M' L' => L' = [] ∧ M' = M ∧ ∃ n', v = .agg #[.slice a n' c] ∧ Row32 M a n' c (trimz ws) := by
  refine Sp.enter (n := 22) Tryz.func72 rfl Tryz.ntmps72 rfl ?_
  intro E hE H
  subst hE
  have hlen := h.len
  refine Goes.seq (Goes.region ?_)
  refine GoL.stepS rfl rfl (r_alloc tt49 H ?_); clear H; intro b2 w hb2 H
  refine GoL.nil ?_
  refine Goes.seq (Goes.block ?_)
  refine Goes.loopS [0, 3, 4, 5, 6, 7, 8, 9, 10, 11, 12, 13, 14, 15, 16, 17, 18, 19] (fun k => [(0, .slice a k c)]) (fun k w => k ≤ n ∧ trimz ws = trimz (ws.take k) ∧ Hp E E.M [pt b2 (.cells #[.slice none 0 0] 49)] w) (fun k => k) n ⟨rfl, trivial⟩ ⟨Nat.le_refl _, by rw [List.take_of_length_le (by omega)], H⟩ ?_
  clear H
  rintro k f w ⟨hk, ht, H⟩ again
  by_cases hk0 : k = 0
  · refine Goes.seq (Goes.seq (Goes.region ?_))
    refine GoL.stepS rfl rfl (mvL rfl ?_)
    refine GoL.stepS rfl rfl (r_lenSlice tt47 rfl ?_)
    refine GoL.stepS rfl rfl (r_gtrF rfl rfl (by omega) ?_)
    refine GoL.stepS rfl rfl (mvB rfl ?_)
    refine GoL.stepNS rfl rfl rfl ?_
    refine GoL.stepNS rfl rfl rfl ?_
    refine GoL.stepNS rfl rfl rfl ?_
    refine GoL.stepNS rfl rfl rfl ?_
    refine GoL.stepNS rfl rfl rfl ?_
    refine GoL.stepNS rfl rfl rfl ?_
    refine GoL.stepNS rfl rfl rfl ?_
    refine GoL.stepS rfl rfl (r_pickF (v := .bool _) rfl rfl ?_)
    refine GoL.nil ?_
    refine Goes.condF rfl (rfl) ?_
    refine Goes.exit rfl (Goes.seq (Goes.region ?_))
    refine GoL.stepS rfl rfl (mvL rfl ?_)
    refine GoL.stepS rfl rfl (bld (cells := [.slice _ _ _]) tt49 pl49 pz49 rfl (by rfl) ?_)
    refine GoL.step0 rfl (stA tt49 rfl rfl H (by repeat constructor) rfl rfl (by rfl) ?_); clear H; intro w H
    refine GoL.nil ?_
    subst hk0
    exact Goes.ret (ret1 (v := .agg #[.slice _ _ _]) rfl rfl (res_agg rfl tt49 (H.own (by repeat constructor)) rfl (by rfl)) H.nil ⟨rfl, rfl, 0, rfl, by rw [ht]; have := h.take (Nat.zero_le n); simpa [trimz] using this⟩)
  · obtain ⟨j, rfl⟩ : ∃ j, k = j + 1 := ⟨k - 1, by omega⟩
    have hcap := h.cap
    have hbig := h.big
    obtain ⟨b, o, cs, e, z, rfl, hM, hv⟩ := h.at (show j < n by omega)
    have hlast := take_snoc (show j < ws.length by omega)
    refine Goes.seq (Goes.seq (Goes.region ?_))
    refine GoL.stepS rfl rfl (mvL rfl ?_)
    refine GoL.stepS rfl rfl (r_lenSlice tt47 rfl ?_)
    refine GoL.stepS rfl rfl (r_gtrT rfl rfl (by omega) ?_)
    refine GoL.stepS rfl rfl (mvB rfl ?_)
    refine GoL.stepYS rfl rfl rfl (mvL rfl ?_)
    refine GoL.stepYS rfl rfl rfl (mvL rfl ?_)
    refine GoL.stepYS rfl rfl rfl (r_lenSlice tt47 rfl ?_)
    refine GoL.stepYS rfl rfl rfl (r_subR (j : Int) rfl rfl (by omega) (by omega) (by omega) ?_)
    refine GoL.stepYS rfl rfl rfl (r_indexAddrN tt47 tt68 rfl rfl (by omega) ?_)
    refine GoL.stepYS rfl rfl rfl (ldI tt68 rfl (H.ro hM) (by rw [Nat.mul_one]; exact hv) ?_)
    refine GoL.stepYS rfl rfl rfl (r_eql rfl rfl ?_)
    refine GoL.stepS rfl rfl (r_pickT (v := .bool _) rfl rfl ?_)
    refine GoL.nil ?_
    refine Goes.cond rfl (fun hc => ?_) (fun hc => ?_)
    · refine Goes.skip (Goes.block (Goes.region ?_))
      refine GoL.stepS rfl rfl (mvL rfl ?_)
      refine GoL.stepS rfl rfl (mvL rfl ?_)
      refine GoL.stepS rfl rfl (r_lenSlice tt47 rfl ?_)
      refine GoL.stepS rfl rfl (r_subR (j : Int) rfl rfl (by omega) (by omega) (by omega) ?_)
      refine GoL.stepS rfl rfl (r_slTo tt47 tt68 rfl rfl (by omega) ?_)
      refine GoL.stepS rfl rfl (asL rfl ?_)
      refine GoL.nil ?_
      refine Goes.inBlock ?_
      have hz : ws.getD j 0 = 0 := by simpa using hc
      refine again j _ _ ⟨rfl, trivial⟩ (.of_strip (by kernel_rfl)) ⟨by omega, ?_, H⟩ (by omega)
      rw [ht, hlast, hz, trimz_snoc_zero]
    · refine Goes.exit rfl (Goes.seq (Goes.region ?_))
      refine GoL.stepS rfl rfl (mvL rfl ?_)
      refine GoL.stepS rfl rfl (bld (cells := [.slice _ _ _]) tt49 pl49 pz49 rfl (by rfl) ?_)
      refine GoL.step0 rfl (stA tt49 rfl rfl H (by repeat constructor) rfl rfl (by rfl) ?_); clear H; intro w H
      refine GoL.nil ?_
      have hz : ws.getD j 0 ≠ 0 := by simpa using hc
      exact Goes.ret (ret1 (v := .agg #[.slice _ _ _]) rfl rfl (res_agg rfl tt49 (H.own (by repeat constructor)) rfl (by rfl)) H.nil ⟨rfl, rfl, j + 1, rfl, by rw [ht, hlast, trimz_snoc_pos _ hz, ← hlast]; exact h.take hk⟩)

theorem fromUint64_spec {M : RO} {x : Nat} (hx : x < 18446744073709551616) : Sp Tryz.prog 25 [.int .u64 (x : Int)] M [] fun v M' L' => L' = [] ∧ ∃ a n c, v = .agg #[.slice a n c] ∧ Row32 M' a n c (trimz [x % 4294967296, x / 4294967296]) := by
  refine Sp.enter (n := 10) Tryz.func25 rfl Tryz.ntmps25 rfl ?_
  intro E hE H
  subst hE
  refine Goes.seq (Goes.region ?_)
  refine GoL.stepS rfl rfl (r_alloc tt49 H ?_); clear H; intro b2 w hb2 H
  refine GoL.nil ?_
  refine Goes.seq (Goes.region ?_)
  refine GoL.stepS rfl rfl (mvI rfl ?_)
  refine GoL.stepS rfl rfl (r_convR ((x % 4294967296 : Nat) : Int) tt51 tt68 rfl (wrap_u32_nat x) ?_)
  refine GoL.stepS rfl rfl (mvI rfl ?_)
  refine GoL.stepS rfl rfl (r_shrUR ((x / 4294967296 : Nat) : Int) 4294967296 rfl rfl (by decide) (by decide) (by omega) ?_)
  refine GoL.stepS rfl rfl (r_cv_u32 tt51 tt68 rfl (by omega) (by omega) ?_)
  refine GoL.stepS rfl rfl (r_bsl (cells := [.int _ _, .int _ _]) tt47 tt68 rfl (by rfl) H ?_); clear H; intro b8 w hb8 H
  obtain ⟨H, hle⟩ := H.freeze (i := 0) .head
  have hrow : Row32 (E.M.put b8 (.cells #[uv (x % 4294967296), uv (x / 4294967296)] 68)) (some ⟨b8, 0, none⟩) 2 2 [x % 4294967296, x / 4294967296] :=
    ⟨rfl, by decide, by decide, by intro y hy; simp at hy; omega, .put rfl (Nat.le_refl _)⟩
  refine GoL.stepS rfl rfl (r_call cc72 (trim_spec hrow) H ?_); clear H; rintro v9 M9 L9 w hM9 ⟨rfl, rfl, n9, rfl, hr9⟩ H
  refine GoL.step0 rfl (stA tt49 rfl rfl H (by repeat constructor) rfl rfl (by rfl) ?_); clear H; intro w H
  refine GoL.nil ?_
  exact Goes.ret (ret1 (v := .agg #[.slice _ _ _]) rfl rfl (res_agg rfl tt49 (H.own (by repeat constructor)) rfl (by rfl)) H.nil ⟨rfl, _, _, _, rfl, hr9⟩)

theorem join_spec {M : RO} {n g : Nat} {caps : List Value} (hg : callable Tryz.prog g = true) {step : Nat → Nat → Nat × Nat} (hn : n ≤ 1073741823)
    (hs : ∀ i, i < n → Sp Tryz.prog g (.int .i64 (i : Int) :: .int .u64 ((jn step i).2 : Int) :: caps) M [] fun v M' L' => L' = [] ∧ M' = M ∧ v = .tuple #[.int .u32 ((step i (jn step i).2).1 : Int), .int .u64 ((step i (jn step i).2).2 : Int)])
    (hsm : ∀ i, i < n → (step i (jn step i).2).1 < 4294967296) (hc : (jn step n).2 < 4294967296) :
    Sp Tryz.prog 81 [.int .i64 (n : Int), .func (.func g) #[] caps.toArray] M [] fun v M' L' => L' = [] ∧ ∃ a k c, v = .slice a k c ∧ Row32 M' a k c (joinW step n) := by
  refine Sp.enter (n := 36) Tryz.func81 rfl Tryz.ntmps81 rfl ?_
  intro E hE H
  subst hE
  refine Goes.seq (Goes.region ?_)
  refine GoL.stepS rfl rfl (asL rfl ?_)
  refine GoL.nil ?_
  refine Goes.seq (Goes.region ?_)
  refine GoL.stepS rfl rfl (mvI rfl ?_)
  refine GoL.stepS rfl rfl (r_addR ((n + 1 : Nat) : Int) rfl rfl (by omega) (by omega) (by omega) ?_)
  refine GoL.stepS rfl rfl (r_mkSg tt47 tt68 rfl rfl rfl rfl rfl rfl (by omega) H ?_); clear H; intro v11 w H
  refine GoL.stepS rfl rfl (r_as (v := v11) rfl ?_)
  refine GoL.nil ?_
  refine Goes.seq (Goes.region ?_)
  refine GoL.stepS rfl rfl (asI rfl ?_)
  refine GoL.nil ?_
  refine Goes.seq (Goes.seq (Goes.region ?_))
  refine GoL.stepS rfl rfl (mvI rfl ?_)
  refine GoL.stepS rfl rfl (mvI rfl ?_)
  refine GoL.nil ?_
  refine Goes.block ?_
  refine Goes.loopS [5, 6, 7, 8, 13, 14, 15, 16, 17, 18, 19, 20, 21, 22, 23, 24, 25, 26, 27] (fun x => [(13, .int .i64 (x.1 : Int)), (6, .int .u64 ((jn step x.1).2 : Int)), (5, x.2)]) (fun x w => x.1 ≤ n ∧ Hp E E.M [sl 68 1 x.2 ((jn step x.1).1.map uv)] w) (fun x => n - x.1) ((0 : Nat), v11) ⟨rfl, rfl, rfl, trivial⟩ ⟨Nat.zero_le _, H⟩ ?_
  clear H
  rintro ⟨i, v⟩ f w ⟨hi, H⟩ again
  refine Goes.seq (Goes.region ?_)
  refine GoL.stepS rfl rfl (r_lss rfl rfl ?_)
  refine GoL.nil ?_
  refine Goes.seq ?_
  refine Goes.cond rfl (fun hlt => ?_) (fun hlt => ?_)
  · have hlt' : i < n := by simpa using hlt
    have hsi := hsm i hlt'
    refine Goes.skip (Goes.seq (Goes.block (Goes.seq (Goes.region ?_))))
    refine GoL.stepS rfl rfl (mvI rfl ?_)
    refine GoL.stepS rfl rfl (asI rfl ?_)
    refine GoL.nil ?_
    refine Goes.seq (Goes.region ?_)
    refine GoL.stepS rfl rfl (asI rfl ?_)
    refine GoL.nil ?_
    refine Goes.seq (Goes.region ?_)
    refine GoL.stepS rfl rfl (mvF rfl ?_)
    refine GoL.stepS rfl rfl (mvI rfl ?_)
    refine GoL.stepS rfl rfl (mvI rfl ?_)
    refine GoL.stepS rfl rfl (r_callV (by assumption) rfl (hs i hlt') H ?_); clear H; rintro v20 M20 L20 w hM20 ⟨rfl, rfl, rfl⟩ H
    refine GoL.stepS rfl rfl (mvT rfl ?_)
    refine GoL.stepS rfl rfl (r_extract rfl rfl ?_)
    refine GoL.stepS rfl rfl (r_extract rfl rfl ?_)
    refine GoL.stepS rfl rfl (asI rfl ?_)
    refine GoL.stepS rfl rfl (asI rfl ?_)
    refine GoL.nil ?_
    refine Goes.region ?_
    refine GoL.stepS rfl rfl (r_mv (v := v) rfl ?_)
    refine GoL.stepS rfl rfl (mvI rfl ?_)
    refine GoL.stepS rfl rfl (r_bsl (cells := [.int _ _]) tt47 tt68 rfl (by rfl) H ?_); clear H; intro b25 w hb25 H
    refine GoL.stepS rfl rfl (r_appendO (m := 1) tt47 tt68 tt47 (by intro k hk; cases hk) rfl rfl rfl H (.tail .head) .head rfl rfl rfl rfl (by simp [jn_length]; omega) ?_); clear H; intro v26 w H
    refine GoL.stepS rfl rfl (r_as (v := v26) rfl ?_)
    refine GoL.nil ?_
    refine Goes.inBlock (Goes.region ?_)
    first | refine GoL.stepS rfl rfl (r_addI rfl rfl (by omega) (by omega) ?_) | refine GoL.stepS rfl rfl (r_add rfl rfl ?_)
    refine GoL.stepS rfl rfl (mvI rfl ?_)
    refine GoL.nil ?_
    refine again (i + 1, v26) _ _ ⟨rfl, rfl, rfl, trivial⟩ (.of_strip (by kernel_rfl)) ⟨by omega, ?_⟩ (by omega)
    show Hp E E.M [sl 68 1 v26 (((jn step i).1 ++ [(step i (jn step i).2).1]).map uv)] w
    rw [uv_map_append]; exact H.right (L := [_])
  · have hin : i = n := by have h1 : ¬ ((i : Int) < n) := by simpa using hlt
                           have h2 : i ≤ n := hi
                           omega
    subst hin
    refine Goes.exit rfl (Goes.seq (Goes.seq (Goes.region ?_)))
    refine GoL.stepS rfl rfl (mvI rfl ?_)
    refine GoL.stepS rfl rfl (r_gtr rfl rfl ?_)
    refine GoL.nil ?_
    refine Goes.cond rfl (fun hpos => ?_) (fun hpos => ?_)
    · have hpos' : 0 < (jn step i).2 := by simpa using hpos
      refine Goes.region ?_
      refine GoL.stepS rfl rfl (r_mv (v := v) rfl ?_)
      refine GoL.stepS rfl rfl (mvI rfl ?_)
      refine GoL.stepS rfl rfl (r_cv_u32 tt51 tt68 rfl (Int.natCast_nonneg _) (by dsimp only; omega) ?_)
      refine GoL.stepS rfl rfl (r_bsl (cells := [.int _ _]) tt47 tt68 rfl (by rfl) H ?_); clear H; intro b33 w hb33 H
      refine GoL.stepS rfl rfl (r_appendO (m := 1) tt47 tt68 tt47 (by intro k hk; cases hk) rfl rfl rfl H (.tail .head) .head rfl rfl rfl rfl (by simp [jn_length]; omega) ?_); clear H; intro v34 w H
      refine GoL.stepS rfl rfl (r_as (v := v34) rfl ?_)
      refine GoL.nil ?_
      refine Goes.seq (Goes.region ?_)
      refine GoL.stepS rfl rfl (r_mv (v := v34) rfl ?_)
      refine GoL.stepS rfl rfl (r_as (v := v34) rfl ?_)
      refine GoL.nil ?_
      have H2 : Hp E E.M [sl 68 1 v34 (((jn step i).1 ++ [(jn step i).2]).map uv)] w := by rw [uv_map_append]; exact H.right (L := [_])
      obtain ⟨M', a, k, c, rfl, hl, hk, hr, hle, H3⟩ := H2.freezeSl .head
      refine Goes.ret (ret1 (v := .slice _ _ _) rfl rfl rfl H3.nil ⟨rfl, a, k, c, rfl, ?_⟩)
      rw [joinW, if_pos hpos']
      refine .of_sl hl hk (by simp [jn_length]; omega) ?_ hr
      intro x hx
      simp only [List.mem_append, List.mem_singleton] at hx
      rcases hx with hx | rfl
      · exact jn_small hsm x hx
      · exact hc
    · refine Goes.skip (Goes.seq (Goes.region ?_))
      refine GoL.stepS rfl rfl (r_mv (v := v) rfl ?_)
      refine GoL.stepS rfl rfl (r_as (v := v) rfl ?_)
      refine GoL.nil ?_
      obtain ⟨M', a, k, c, rfl, hl, hk, hr, hle, H3⟩ := H.freezeSl .head
      refine Goes.ret (ret1 (v := .slice _ _ _) rfl rfl rfl H3.nil ⟨rfl, a, k, c, rfl, ?_⟩)
      have hpos' : ¬ 0 < (jn step i).2 := by simpa using hpos
      rw [joinW, if_neg hpos']
      exact .of_sl hl hk (by simp [jn_length]; omega) (jn_small hsm) hr

end Go.Proofs.YtlcpdkckldlceaaGreatDoor
namespace Go.Proofs.YtlcpdkckldlceaaGreatDoor
open Go.Sx Go.Nat32
attribute [local irreducible] pt sl itc
set_option maxRecDepth 100000

theorem add1_spec {M : RO} {b2 b3 : Nat} {a a' : Option Addr} {n c n' c' : Nat} {wa wb : List Nat} (h2 : M b2 = some (.cells #[.slice a n c] 49)) (h3 : M b3 = some (.cells #[.slice a' n' c'] 49))
    (ha : Row32 M a n c wa) (hb : Row32 M a' n' c' wb) (i cy : Nat) (hcy : cy < 4294967296) :
    Sp Tryz.prog 82 [.int .i64 (i : Int), .int .u64 (cy : Int), .pointer (some ⟨b2, 0, none⟩), .pointer (some ⟨b3, 0, none⟩)] M []
      fun v M' L' => L' = [] ∧ M' = M ∧ v = .tuple #[.int .u32 ((addStep wa wb i cy).1 : Int), .int .u64 ((addStep wa wb i cy).2 : Int)] := by
  refine Sp.enter (n := 22) Tryz.func82 rfl Tryz.ntmps82 rfl ?_
  intro E hE H
  subst hE
  have ga := ha.small.getD i
  have gb := hb.small.getD i
  refine Goes.seq (Goes.region ?_)
  refine GoL.stepS rfl rfl (asI rfl ?_)
  refine GoL.stepS rfl rfl (asI rfl ?_)
  refine GoL.nil ?_
  refine Goes.seq ?_
  refine Goes.regionD0 mixed (by kernel_rfl) 11 H ?_
  refine Ver.read (v := .agg _) 0 rfl (by kernel_rfl) (fun M' L' w hM H => ldA tt49 rfl (H.ro (hM _ _ h2)) rfl (by rfl) ⟨rfl, rfl⟩) ?_
  refine Ver.read (v := .int _ _) 1 rfl (by kernel_rfl) (fun M' L' w hM H => mvI rfl ⟨rfl, rfl⟩) ?_
  refine Ver.read (v := .agg _) 3 rfl (by kernel_rfl) (fun M' L' w hM H => ldA tt49 rfl (H.ro (hM _ _ h3)) rfl (by rfl) ⟨rfl, rfl⟩) ?_
  refine Ver.read (v := .int _ _) 4 rfl (by kernel_rfl) (fun M' L' w hM H => mvI rfl ⟨rfl, rfl⟩) ?_
  refine Ver.read (v := .int _ _) 7 rfl (by kernel_rfl) (fun M' L' w hM H => mvI rfl ⟨rfl, rfl⟩) ?_
  refine Ver.next0 2 (by kernel_rfl) rfl (by kernel_rfl) ?_
  clear H; intro w H
  refine r_call cc83 (word_spec ha i) H ?_
  clear H; rintro v11 M11 L11 w hM11 ⟨rfl, rfl, rfl⟩ H
  refine ⟨_, hM11, H, ?_⟩
  refine Ver.next0 5 (by kernel_rfl) rfl (by kernel_rfl) ?_
  clear H; intro w H
  refine r_call cc83 (word_spec hb i) H ?_
  clear H; rintro v14 M14 L14 w hM14 ⟨rfl, rfl, rfl⟩ H
  refine ⟨_, hM14, H, ?_⟩
  refine Ver.read (v := .int _ _) 6 rfl (by kernel_rfl) (fun M' L' w hM H => r_addUR ((wa.getD i 0 + wb.getD i 0 : Nat) : Int) rfl rfl (by omega) (by omega) (by omega) ⟨rfl, rfl⟩) ?_
  refine Ver.read (v := .int _ _) 8 rfl (by kernel_rfl) (fun M' L' w hM H => r_addUR ((wa.getD i 0 + wb.getD i 0 + cy : Nat) : Int) rfl rfl (by omega) (by omega) (by omega) ⟨rfl, rfl⟩) ?_
  refine Ver.read (v := .int _ _) 9 rfl (by kernel_rfl) (fun M' L' w hM H => asI rfl ⟨rfl, rfl⟩) ?_
  refine Ver.fin0 (by kernel_rfl) ?_
  clear H; intro w H
  refine Goes.seq (Goes.region ?_)
  refine GoL.stepS rfl rfl (mvI rfl ?_)
  refine GoL.stepS rfl rfl (r_convR (((wa.getD i 0 + wb.getD i 0 + cy) % 4294967296 : Nat) : Int) tt51 tt68 rfl (wrap_u32_nat _) ?_)
  refine GoL.stepS rfl rfl (mvI rfl ?_)
  refine GoL.stepS rfl rfl (r_shrUR (((wa.getD i 0 + wb.getD i 0 + cy) / 4294967296 : Nat) : Int) 4294967296 rfl rfl (by decide) (by decide) (by omega) ?_)
  refine GoL.stepS rfl rfl (asI rfl ?_)
  refine GoL.stepS rfl rfl (asI rfl ?_)
  refine GoL.nil ?_
  exact Goes.ret (ret2 (v := .int _ _) (v' := .int _ _) rfl rfl rfl rfl H.nil ⟨rfl, rfl, rfl⟩)

theorem small1_spec {M : RO} {b2 b3 b4 : Nat} {a : Option Addr} {n c k plus : Nat} {wa : List Nat} (h2 : M b2 = some (.cells #[.int .u64 (plus : Int)] 51)) (h3 : M b3 = some (.cells #[.slice a n c] 49)) (h4 : M b4 = some (.cells #[.int .u64 (k : Int)] 51))
    (ha : Row32 M a n c wa) (hk : k ≤ 4294967295) (hp : plus < 4294967296) (i cy : Nat) (hcy : cy < 4294967296) :
    Sp Tryz.prog 120 [.int .i64 (i : Int), .int .u64 (cy : Int), .pointer (some ⟨b2, 0, none⟩), .pointer (some ⟨b3, 0, none⟩), .pointer (some ⟨b4, 0, none⟩)] M []
      fun v M' L' => L' = [] ∧ M' = M ∧ v = .tuple #[.int .u32 ((smallStep wa k plus i cy).1 : Int), .int .u64 ((smallStep wa k plus i cy).2 : Int)] := by
  refine Sp.enter (n := 24) Tryz.func120 rfl Tryz.ntmps120 rfl ?_
  intro E hE H
  subst hE
  have ga := ha.small.getD i
  have gm : wa.getD i 0 * k ≤ 4294967295 * 4294967295 := Nat.mul_le_mul (by omega) hk
  refine Goes.seq (Goes.region ?_)
  refine GoL.stepS rfl rfl (asI rfl ?_)
  refine GoL.stepS rfl rfl (asI rfl ?_)
  refine GoL.nil ?_
  refine Goes.seq (Goes.seq (Goes.region ?_))
  refine GoL.stepS rfl rfl (mvI rfl ?_)
  refine GoL.stepS rfl rfl (r_eql rfl rfl ?_)
  refine GoL.nil ?_
  refine Goes.cond rfl (fun hc => ?_) (fun hc => ?_)
  · have hi : i = 0 := by simpa using hc
    refine Goes.region ?_
    refine GoL.stepS rfl rfl (ldI tt51 rfl (H.ro h2) (by rfl) ?_)
    refine GoL.stepS rfl rfl (asI rfl ?_)
    refine GoL.nil ?_
    refine Goes.seq ?_
    refine Goes.regionD0 mixed (by kernel_rfl) 9 H ?_
    refine Ver.read (v := .agg _) 0 rfl (by kernel_rfl) (fun M' L' w hM H => ldA tt49 rfl (H.ro (hM _ _ h3)) rfl (by rfl) ⟨rfl, rfl⟩) ?_
    refine Ver.read (v := .int _ _) 1 rfl (by kernel_rfl) (fun M' L' w hM H => mvI rfl ⟨rfl, rfl⟩) ?_
    refine Ver.read (v := .int _ _) 3 rfl (by kernel_rfl) (fun M' L' w hM H => ldI tt51 rfl (H.ro (hM _ _ h4)) (by rfl) ⟨rfl, rfl⟩) ?_
    refine Ver.read (v := .int _ _) 5 rfl (by kernel_rfl) (fun M' L' w hM H => mvI rfl ⟨rfl, rfl⟩) ?_
    refine Ver.next0 2 (by kernel_rfl) rfl (by kernel_rfl) ?_
    clear H; intro w H
    refine r_call cc83 (word_spec ha i) H ?_
    clear H; rintro v15 M15 L15 w hM15 ⟨rfl, rfl, rfl⟩ H
    refine ⟨_, hM15, H, ?_⟩
    refine Ver.read (v := .int _ _) 4 rfl (by kernel_rfl) (fun M' L' w hM H => r_mulUR ((wa.getD i 0 * k : Nat) : Int) rfl rfl (by omega) (by omega) (by omega) ⟨rfl, rfl⟩) ?_
    refine Ver.read (v := .int _ _) 6 rfl (by kernel_rfl) (fun M' L' w hM H => r_addUR ((wa.getD i 0 * k + plus : Nat) : Int) rfl rfl (by omega) (by omega) (by omega) ⟨rfl, rfl⟩) ?_
    refine Ver.read (v := .int _ _) 7 rfl (by kernel_rfl) (fun M' L' w hM H => asI rfl ⟨rfl, rfl⟩) ?_
    refine Ver.fin0 (by kernel_rfl) ?_
    clear H; intro w H
    refine Goes.seq (Goes.region ?_)
    refine GoL.stepS rfl rfl (mvI rfl ?_)
    refine GoL.stepS rfl rfl (r_convR (((wa.getD i 0 * k + plus) % 4294967296 : Nat) : Int) tt51 tt68 rfl (wrap_u32_nat _) ?_)
    refine GoL.stepS rfl rfl (mvI rfl ?_)
    refine GoL.stepS rfl rfl (r_shrUR (((wa.getD i 0 * k + plus) / 4294967296 : Nat) : Int) 4294967296 rfl rfl (by decide) (by decide) (by omega) ?_)
    refine GoL.stepS rfl rfl (asI rfl ?_)
    refine GoL.stepS rfl rfl (asI rfl ?_)
    refine GoL.nil ?_
    exact Goes.ret (ret2 (v := .int _ _) (v' := .int _ _) rfl rfl rfl rfl H.nil ⟨rfl, rfl, by simp [smallStep, hi]⟩)
  · have hi : i ≠ 0 := by simpa using hc
    refine Goes.skip (Goes.seq ?_)
    refine Goes.regionD0 mixed (by kernel_rfl) 9 H ?_
    refine Ver.read (v := .agg _) 0 rfl (by kernel_rfl) (fun M' L' w hM H => ldA tt49 rfl (H.ro (hM _ _ h3)) rfl (by rfl) ⟨rfl, rfl⟩) ?_
    refine Ver.read (v := .int _ _) 1 rfl (by kernel_rfl) (fun M' L' w hM H => mvI rfl ⟨rfl, rfl⟩) ?_
    refine Ver.read (v := .int _ _) 3 rfl (by kernel_rfl) (fun M' L' w hM H => ldI tt51 rfl (H.ro (hM _ _ h4)) (by rfl) ⟨rfl, rfl⟩) ?_
    refine Ver.read (v := .int _ _) 5 rfl (by kernel_rfl) (fun M' L' w hM H => mvI rfl ⟨rfl, rfl⟩) ?_
    refine Ver.next0 2 (by kernel_rfl) rfl (by kernel_rfl) ?_
    clear H; intro w H
    refine r_call cc83 (word_spec ha i) H ?_
    clear H; rintro v15 M15 L15 w hM15 ⟨rfl, rfl, rfl⟩ H
    refine ⟨_, hM15, H, ?_⟩
    refine Ver.read (v := .int _ _) 4 rfl (by kernel_rfl) (fun M' L' w hM H => r_mulUR ((wa.getD i 0 * k : Nat) : Int) rfl rfl (by omega) (by omega) (by omega) ⟨rfl, rfl⟩) ?_
    refine Ver.read (v := .int _ _) 6 rfl (by kernel_rfl) (fun M' L' w hM H => r_addUR ((wa.getD i 0 * k + cy : Nat) : Int) rfl rfl (by omega) (by omega) (by omega) ⟨rfl, rfl⟩) ?_
    refine Ver.read (v := .int _ _) 7 rfl (by kernel_rfl) (fun M' L' w hM H => asI rfl ⟨rfl, rfl⟩) ?_
    refine Ver.fin0 (by kernel_rfl) ?_
    clear H; intro w H
    refine Goes.seq (Goes.region ?_)
    refine GoL.stepS rfl rfl (mvI rfl ?_)
    refine GoL.stepS rfl rfl (r_convR (((wa.getD i 0 * k + cy) % 4294967296 : Nat) : Int) tt51 tt68 rfl (wrap_u32_nat _) ?_)
    refine GoL.stepS rfl rfl (mvI rfl ?_)
    refine GoL.stepS rfl rfl (r_shrUR (((wa.getD i 0 * k + cy) / 4294967296 : Nat) : Int) 4294967296 rfl rfl (by decide) (by decide) (by omega) ?_)
    refine GoL.stepS rfl rfl (asI rfl ?_)
    refine GoL.stepS rfl rfl (asI rfl ?_)
    refine GoL.nil ?_
    exact Goes.ret (ret2 (v := .int _ _) (v' := .int _ _) rfl rfl rfl rfl H.nil ⟨rfl, rfl, by simp [smallStep, hi]⟩)

theorem jn_add_carry {wa wb : List Nat} (ha : small wa) (hb : small wb) (i : Nat) : (jn (addStep wa wb) i).2 ≤ 1 := by
  induction i with
  | zero => exact Nat.zero_le _
  | succ i ih =>
    have h1 := ha.getD i; have h2 := hb.getD i
    simp only [jn, addStep]; omega
theorem jn_small_carry {wa : List Nat} (ha : small wa) {k plus : Nat} (hk : k ≤ 4294967295) (hp : plus < 4294967296) (i : Nat) : (jn (smallStep wa k plus) i).2 < 4294967296 := by
  induction i with
  | zero => exact Nat.zero_lt_succ _
  | succ i ih =>
    have h1 := ha.getD i
    have gm : wa.getD i 0 * k ≤ 4294967295 * 4294967295 := Nat.mul_le_mul (by omega) hk
    simp only [jn, smallStep]
    split <;> omega

theorem add_spec {M : RO} {a a' : Option Addr} {n c n' c' : Nat} {wa wb : List Nat} (ha : Row32 M a n c wa) (hb : Row32 M a' n' c' wb) (hn : n < 1073741823) (hn' : n' < 1073741823) :
    Sp Tryz.prog 32 [.agg #[.slice a n c], .agg #[.slice a' n' c']] M [] fun v M' L' => L' = [] ∧ ∃ a n c, v = .agg #[.slice a n c] ∧ Row32 M' a n c (trimz (joinW (addStep wa wb) (max wa.length wb.length))) := by
  refine Sp.enter (n := 15) Tryz.func32 rfl Tryz.ntmps32 rfl ?_
  intro E hE H
  subst hE
  have hla := ha.len
  have hlb := hb.len
  refine Goes.seq (Goes.region ?_)
  refine GoL.stepS rfl rfl (bxA rfl H ?_); clear H; intro b2 w hb2 H
  refine GoL.stepS rfl rfl (bxA rfl H ?_); clear H; intro b3 w hb3 H
  refine GoL.stepS rfl rfl (r_alloc tt49 H ?_); clear H; intro b4 w hb4 H
  refine GoL.nil ?_
  refine Goes.seq (Goes.region ?_)
  first | refine GoL.stepS rfl rfl (r_fieldAddr0 fo49_0 rfl ?_) | refine GoL.stepS rfl rfl (r_fieldAddr fo49_0 rfl ?_)
  refine GoL.stepS rfl rfl (ldL tt47 rfl (H.own (by repeat constructor)) (by rfl) ?_)
  refine GoL.stepS rfl rfl (r_lenSlice tt47 rfl ?_)
  first | refine GoL.stepS rfl rfl (r_fieldAddr0 fo49_0 rfl ?_) | refine GoL.stepS rfl rfl (r_fieldAddr fo49_0 rfl ?_)
  refine GoL.stepS rfl rfl (ldL tt47 rfl (H.own (by repeat constructor)) (by rfl) ?_)
  refine GoL.stepS rfl rfl (r_lenSlice tt47 rfl ?_)
  refine GoL.stepS rfl rfl (r_max2R ((max wa.length wb.length : Nat) : Int) rfl rfl (by omega) ?_)
  refine GoL.stepS rfl rfl (r_mkF (fa := []) (fb := [.pointer _, .pointer _]) (by rfl) (by rfl) ?_)
  obtain ⟨M1, h2, hle1, H⟩ := H.freezeX (i := 2) (.tail (.tail .head))
  obtain ⟨M2, h3, hle2, H⟩ := H.freezeX (i := 1) (.tail .head)
  have hca := jn_add_carry ha.small hb.small
  refine GoL.stepS rfl rfl (r_call cc81 (join_spec rfl (step := addStep wa wb) (by omega) (fun i hi => add1_spec (hle2 _ _ h2) h3 (ha.mono (hle1.trans hle2)) (hb.mono (hle1.trans hle2)) i _ (by have := hca i; omega)) (fun i hi => Nat.mod_lt _ (by decide)) (by have := hca (max wa.length wb.length); omega)) H ?_); clear H; rintro v13 M13 L13 w hM13 ⟨rfl, a13, n13, c13, rfl, h13⟩ H
  refine GoL.stepS rfl rfl (r_call cc72 (trim_spec h13) H ?_); clear H; rintro v14 M14 L14 w hM14 ⟨rfl, rfl, n14, rfl, h14⟩ H
  refine GoL.step0 rfl (stA tt49 rfl rfl H (by repeat constructor) rfl rfl (by rfl) ?_); clear H; intro w H
  refine GoL.nil ?_
  exact Goes.ret (ret1 (v := .agg #[.slice _ _ _]) rfl rfl (res_agg rfl tt49 (H.own (by repeat constructor)) rfl (by rfl)) H.nil ⟨rfl, _, _, _, rfl, h14⟩)

theorem small_spec {M : RO} {a : Option Addr} {n c k plus : Nat} {wa : List Nat} (ha : Row32 M a n c wa) (hn : n < 1073741822) (hk : k ≤ 4294967295) (hp : plus < 4294967296) :
    Sp Tryz.prog 92 [.agg #[.slice a n c], .int .u64 (k : Int), .int .u64 (plus : Int)] M [] fun v M' L' => L' = [] ∧ ∃ a n c, v = .agg #[.slice a n c] ∧ Row32 M' a n c (trimz (joinW (smallStep wa k plus) (wa.length + 1))) := by
  refine Sp.enter (n := 14) Tryz.func92 rfl Tryz.ntmps92 rfl ?_
  intro E hE H
  subst hE
  have hla := ha.len
  refine Goes.seq (Goes.region ?_)
  refine GoL.stepS rfl rfl (bxA rfl H ?_); clear H; intro b3 w hb3 H
  refine GoL.stepS rfl rfl (bxI rfl H ?_); clear H; intro b4 w hb4 H
  refine GoL.stepS rfl rfl (bxI rfl H ?_); clear H; intro b5 w hb5 H
  refine GoL.stepS rfl rfl (r_alloc tt49 H ?_); clear H; intro b6 w hb6 H
  refine GoL.nil ?_
  refine Goes.seq (Goes.region ?_)
  first | refine GoL.stepS rfl rfl (r_fieldAddr0 fo49_0 rfl ?_) | refine GoL.stepS rfl rfl (r_fieldAddr fo49_0 rfl ?_)
  refine GoL.stepS rfl rfl (ldL tt47 rfl (H.own (by repeat constructor)) (by rfl) ?_)
  refine GoL.stepS rfl rfl (r_lenSlice tt47 rfl ?_)
  refine GoL.stepS rfl rfl (r_addR ((wa.length + 1 : Nat) : Int) rfl rfl (by omega) (by omega) (by omega) ?_)
  refine GoL.stepS rfl rfl (r_mkF (fa := []) (fb := [.pointer _, .pointer _, .pointer _]) (by rfl) (by rfl) ?_)
  obtain ⟨M1, h3, hle1, H⟩ := H.freezeX (i := 3) (.tail (.tail (.tail .head)))
  obtain ⟨M2, h4, hle2, H⟩ := H.freezeX (i := 2) (.tail (.tail .head))
  obtain ⟨M3, h5, hle3, H⟩ := H.freezeX (i := 1) (.tail .head)
  have hca := jn_small_carry ha.small hk hp
  refine GoL.stepS rfl rfl (r_call cc81 (join_spec rfl (step := smallStep wa k plus) (by omega) (fun i hi => small1_spec h5 (hle3 _ _ (hle2 _ _ h3)) (hle3 _ _ h4) (ha.mono (hle1.trans (hle2.trans hle3))) hk hp i _ (hca i)) (fun i hi => Nat.mod_lt _ (by decide)) (hca _)) H ?_); clear H; rintro v12 M12 L12 w hM12 ⟨rfl, a13, n13, c13, rfl, h13⟩ H
  refine GoL.stepS rfl rfl (r_call cc72 (trim_spec h13) H ?_); clear H; rintro v13 M13 L13 w hM13 ⟨rfl, rfl, n14, rfl, h14⟩ H
  refine GoL.step0 rfl (stA tt49 rfl rfl H (by repeat constructor) rfl rfl (by rfl) ?_); clear H; intro w H
  refine GoL.nil ?_
  exact Goes.ret (ret1 (v := .agg #[.slice _ _ _]) rfl rfl (res_agg rfl tt49 (H.own (by repeat constructor)) rfl (by rfl)) H.nil ⟨rfl, _, _, _, rfl, h14⟩)

end Go.Proofs.YtlcpdkckldlceaaGreatDoor
namespace Go.Proofs.YtlcpdkckldlceaaGreatDoor
open Go.Sx Go.Nat32
attribute [local irreducible] pt sl itc
set_option maxRecDepth 100000

theorem mul_spec {M : RO} {a a' : Option Addr} {n c n' c' : Nat} {wa wb : List Nat} (ha : Row32 M a n c wa) (hb : Row32 M a' n' c' wb) (hn : n + n' ≤ 1073741824) :
    Sp Tryz.prog 33 [.agg #[.slice a n c], .agg #[.slice a' n' c']] M [] fun v M' L' => L' = [] ∧ ∃ a n c, v = .agg #[.slice a n c] ∧ Row32 M' a n c (trimz (mulOut wa wb wa.length)) := by
  refine Sp.enter (n := 73) Tryz.func33 rfl Tryz.ntmps33 rfl ?_
  intro E hE H
  subst hE
  have hla := ha.len
  have hlb := hb.len
  refine Goes.seq (Goes.region ?_)
  refine GoL.stepS rfl rfl (bxA rfl H ?_); clear H; intro b2 w hb2 H
  refine GoL.stepS rfl rfl (bxA rfl H ?_); clear H; intro b3 w hb3 H
  refine GoL.stepS rfl rfl (r_alloc tt49 H ?_); clear H; intro b4 w hb4 H
  refine GoL.nil ?_
  refine Goes.seq (Goes.region ?_)
  first | refine GoL.stepS rfl rfl (r_fieldAddr0 fo49_0 rfl ?_) | refine GoL.stepS rfl rfl (r_fieldAddr fo49_0 rfl ?_)
  refine GoL.stepS rfl rfl (ldL tt47 rfl (H.own (by repeat constructor)) (by rfl) ?_)
  refine GoL.stepS rfl rfl (r_lenSlice tt47 rfl ?_)
  first | refine GoL.stepS rfl rfl (r_fieldAddr0 fo49_0 rfl ?_) | refine GoL.stepS rfl rfl (r_fieldAddr fo49_0 rfl ?_)
  refine GoL.stepS rfl rfl (ldL tt47 rfl (H.own (by repeat constructor)) (by rfl) ?_)
  refine GoL.stepS rfl rfl (r_lenSlice tt47 rfl ?_)
  refine GoL.stepS rfl rfl (r_addR ((wa.length + wb.length : Nat) : Int) rfl rfl (by omega) (by omega) (by omega) ?_)
  refine GoL.stepS rfl rfl (r_mkS1 (z := uv 0) (l := wa.length + wb.length) (cp := wa.length + wb.length) tt47 tt68 rfl rfl rfl rfl rfl (Nat.le_refl _) rfl (by omega) H ?_); clear H; intro b19 w hb19 H
  refine GoL.stepS rfl rfl (asL rfl ?_)
  refine GoL.nil ?_
  refine Goes.seq (Goes.seq (Goes.region ?_))
  first | refine GoL.stepS rfl rfl (r_fieldAddr0 fo49_0 rfl ?_) | refine GoL.stepS rfl rfl (r_fieldAddr fo49_0 rfl ?_)
  refine GoL.stepS rfl rfl (ldL tt47 rfl (H.own (by repeat constructor)) (by rfl) ?_)
  refine GoL.stepS rfl rfl (r_lenSlice tt47 rfl ?_)
  refine GoL.stepS rfl rfl (mvI rfl ?_)
  refine GoL.nil ?_
  refine Goes.block ?_
  refine Goes.loopS [6, 7, 8, 9, 10, 11, 23, 24, 25, 26, 27, 28, 29, 30, 31, 32, 33, 34, 35, 36, 37, 38, 39, 40, 41, 42, 43, 44, 45, 46, 47, 48, 49, 50, 51, 52, 53, 54, 55, 56, 57, 58, 59, 60, 61, 62, 63, 64, 65, 66, 67, 68, 69, 70] (fun (i : Nat) => [(23, .int .i64 (i : Int))]) (fun i w => i ≤ wa.length ∧ Hp E E.M [pt b19 (.cells ((mulOut wa wb i).map uv).toArray 68), pt b4 (.cells #[.slice none 0 0] 49), pt b3 (.cells #[.slice a' n' c'] 49), pt b2 (.cells #[.slice a n c] 49)] w) (fun i => wa.length - i) (0 : Nat) ⟨rfl, trivial⟩ ⟨Nat.zero_le _, by rw [mulOut, List.map_replicate]; exact H⟩ ?_
  clear H
  rintro i f w ⟨hi, H⟩ again
  refine Goes.seq (Goes.region ?_)
  refine GoL.stepS rfl rfl (r_lss rfl rfl ?_)
  refine GoL.nil ?_
  refine Goes.seq ?_
  refine Goes.cond rfl (fun hc => ?_) (fun hc => ?_)
  · have hi' : i < wa.length := by simpa [hla] using hc
    obtain ⟨bb, o, cs, e, z, rfl, hM, hv⟩ := ha.at (show i < n by omega)
    have sx := ha.small.getD i
    have so := mulOut_small ha.small hb.small i
    refine Goes.skip (Goes.seq (Goes.block (Goes.seq (Goes.region ?_))))
    refine GoL.stepS rfl rfl (mvI rfl ?_)
    refine GoL.stepS rfl rfl (r_indexAddrN tt47 tt68 rfl rfl (by omega) ?_)
    refine GoL.stepS rfl rfl (ldI tt68 rfl (H.ro hM) (by rw [Nat.mul_one]; exact hv) ?_)
    refine GoL.stepS rfl rfl (asI rfl ?_)
    refine GoL.stepS rfl rfl (asI rfl ?_)
    refine GoL.nil ?_
    refine Goes.seq (Goes.region ?_)
    refine GoL.stepS rfl rfl (asI rfl ?_)
    refine GoL.nil ?_
    refine Goes.seq (Goes.seq (Goes.region ?_))
    first | refine GoL.stepS rfl rfl (r_fieldAddr0 fo49_0 rfl ?_) | refine GoL.stepS rfl rfl (r_fieldAddr fo49_0 rfl ?_)
    refine GoL.stepS rfl rfl (ldL tt47 rfl (H.own (by repeat constructor)) (by rfl) ?_)
    refine GoL.stepS rfl rfl (r_lenSlice tt47 rfl ?_)
    refine GoL.stepS rfl rfl (mvI rfl ?_)
    refine GoL.nil ?_
    refine Goes.block ?_
    refine Goes.loopS [8, 9, 10, 11, 31, 32, 33, 34, 35, 36, 37, 38, 39, 40, 41, 42, 43, 44, 45, 46, 47, 48, 49, 50, 51, 52, 53, 54, 55, 56, 57, 58, 59, 60] (fun (k : Nat) => [(31, .int .i64 (k : Int)), (8, .int .u64 ((mulIn (wa.getD i 0) wb i (mulOut wa wb i) k).2 : Int))]) (fun k w => k ≤ wb.length ∧ Hp E E.M [pt b19 (.cells ((mulIn (wa.getD i 0) wb i (mulOut wa wb i) k).1.map uv).toArray 68), pt b4 (.cells #[.slice none 0 0] 49), pt b3 (.cells #[.slice a' n' c'] 49), pt b2 (.cells #[.slice _ n c] 49)] w) (fun k => wb.length - k) (0 : Nat) ⟨rfl, rfl, trivial⟩ ⟨Nat.zero_le _, H⟩ ?_
    clear H
    rintro k f2 w ⟨hk, H⟩ again2
    have hbd := mulIn_bound (i := i) sx hb.small so k
    have hlen : (mulIn (wa.getD i 0) wb i (mulOut wa wb i) k).1.length = wa.length + wb.length := by rw [mulIn_length, mulOut_length]
    refine Goes.seq (Goes.region ?_)
    refine GoL.stepS rfl rfl (r_lss rfl rfl ?_)
    refine GoL.nil ?_
    refine Goes.seq ?_
    refine Goes.cond rfl (fun hc2 => ?_) (fun hc2 => ?_)
    · have hk' : k < wb.length := by simpa [hlb] using hc2
      obtain ⟨bb', o', cs', e', z', rfl, hM', hv'⟩ := hb.at (show k < n' by omega)
      have sy := hb.small.getD k
      have s3 : wa.getD i 0 * wb.getD k 0 ≤ 4294967295 * 4294967295 := Nat.mul_le_mul (by omega) (by omega)
      have sz := hbd.1.getD (i + k)
      have sc := hbd.2
      refine Goes.skip (Goes.seq (Goes.block (Goes.seq (Goes.region ?_))))
      refine GoL.stepS rfl rfl (mvI rfl ?_)
      refine GoL.stepS rfl rfl (r_indexAddrN tt47 tt68 rfl rfl (by omega) ?_)
      refine GoL.stepS rfl rfl (ldI tt68 rfl (H.ro hM') (by rw [Nat.mul_one]; exact hv') ?_)
      refine GoL.stepS rfl rfl (asI rfl ?_)
      refine GoL.stepS rfl rfl (asI rfl ?_)
      refine GoL.nil ?_
      refine Goes.seq (Goes.region ?_)
      refine GoL.stepS rfl rfl (mvI rfl ?_)
      first | refine GoL.stepS rfl rfl (r_cv_u64 tt68 tt51 rfl (by omega) (by omega) ?_) | refine GoL.stepS rfl rfl (r_convInt tt68 tt51 rfl ?_)
      refine GoL.stepS rfl rfl (mvI rfl ?_)
      first | refine GoL.stepS rfl rfl (r_cv_u64 tt68 tt51 rfl (by omega) (by omega) ?_) | refine GoL.stepS rfl rfl (r_convInt tt68 tt51 rfl ?_)
      refine GoL.stepS rfl rfl (r_mulUR ((wa.getD i 0 * wb.getD k 0 : Nat) : Int) rfl rfl (by omega) (by omega) (by omega) ?_)
      refine GoL.stepS rfl rfl (mvL rfl ?_)
      refine GoL.stepS rfl rfl (mvI rfl ?_)
      refine GoL.stepS rfl rfl (mvI rfl ?_)
      refine GoL.stepS rfl rfl (r_addR ((i + k : Nat) : Int) rfl rfl (by omega) (by omega) (by omega) ?_)
      refine GoL.stepS rfl rfl (r_indexAddrN tt47 tt68 rfl rfl (by omega) ?_)
      refine GoL.stepS rfl rfl (ldI tt68 rfl (H.own .head) (by rw [Nat.mul_one, Nat.zero_add]; exact row_get _ (by omega)) ?_)
      first | refine GoL.stepS rfl rfl (r_cv_u64 tt68 tt51 rfl (by omega) (by omega) ?_) | refine GoL.stepS rfl rfl (r_convInt tt68 tt51 rfl ?_)
      refine GoL.stepS rfl rfl (r_addUR ((wa.getD i 0 * wb.getD k 0 + (mulIn (wa.getD i 0) wb i (mulOut wa wb i) k).1.getD (i + k) 0 : Nat) : Int) rfl rfl (by omega) (by omega) (by omega) ?_)
      refine GoL.stepS rfl rfl (mvI rfl ?_)
      refine GoL.stepS rfl rfl (r_addUR ((wa.getD i 0 * wb.getD k 0 + (mulIn (wa.getD i 0) wb i (mulOut wa wb i) k).1.getD (i + k) 0 + (mulIn (wa.getD i 0) wb i (mulOut wa wb i) k).2 : Nat) : Int) rfl rfl (by omega) (by omega) (by omega) ?_)
      refine GoL.stepS rfl rfl (asI rfl ?_)
      refine GoL.nil ?_
      refine Goes.region ?_
      refine GoL.stepS rfl rfl (mvL rfl ?_)
      refine GoL.stepS rfl rfl (mvI rfl ?_)
      refine GoL.stepS rfl rfl (mvI rfl ?_)
      refine GoL.stepS rfl rfl (r_addR ((i + k : Nat) : Int) rfl rfl (by omega) (by omega) (by omega) ?_)
      refine GoL.stepS rfl rfl (mvI rfl ?_)
      refine GoL.stepS rfl rfl (r_convR (((wa.getD i 0 * wb.getD k 0 + (mulIn (wa.getD i 0) wb i (mulOut wa wb i) k).1.getD (i + k) 0 + (mulIn (wa.getD i 0) wb i (mulOut wa wb i) k).2) % 4294967296 : Nat) : Int) tt51 tt68 rfl (wrap_u32_nat _) ?_)
      refine GoL.stepS rfl rfl (mvI rfl ?_)
      refine GoL.stepS rfl rfl (r_shrUR (((wa.getD i 0 * wb.getD k 0 + (mulIn (wa.getD i 0) wb i (mulOut wa wb i) k).1.getD (i + k) 0 + (mulIn (wa.getD i 0) wb i (mulOut wa wb i) k).2) / 4294967296 : Nat) : Int) 4294967296 rfl rfl (by decide) (by decide) (by omega) ?_)
      refine GoL.stepS rfl rfl (r_indexAddrN tt47 tt68 rfl rfl (by omega) ?_)
      refine GoL.step0 rfl (r_store1 tt68 rfl rfl H .head rfl (by rw [List.size_toArray, List.length_map]; omega) ?_); clear H; intro w H
      refine GoL.stepS rfl rfl (asI rfl ?_)
      refine GoL.nil ?_
      refine Goes.inBlock (Goes.region ?_)
      first | refine GoL.stepS rfl rfl (r_addI rfl rfl (by omega) (by omega) ?_) | refine GoL.stepS rfl rfl (r_add rfl rfl ?_)
      refine GoL.stepS rfl rfl (mvI rfl ?_)
      refine GoL.nil ?_
      refine again2 (k + 1) _ _ ⟨by rfl, rfl, trivial⟩ (.of_strip (by kernel_rfl)) ⟨by omega, ?_⟩ (by omega)
      rw [Nat.mul_one, Nat.zero_add] at H
      rw [mulIn, ← row_set]
      exact H
    · have hk' : k = wb.length := by have h1 : ¬ ((k : Int) < (n' : Int)) := by simpa using hc2
                                     omega
      subst hk'
      have sc := hbd.2
      refine Goes.exit rfl (Goes.region ?_)
      refine GoL.stepS rfl rfl (mvL rfl ?_)
      refine GoL.stepS rfl rfl (mvI rfl ?_)
      first | refine GoL.stepS rfl rfl (r_fieldAddr0 fo49_0 rfl ?_) | refine GoL.stepS rfl rfl (r_fieldAddr fo49_0 rfl ?_)
      refine GoL.stepS rfl rfl (ldL tt47 rfl (H.own (by repeat constructor)) (by rfl) ?_)
      refine GoL.stepS rfl rfl (r_lenSlice tt47 rfl ?_)
      refine GoL.stepS rfl rfl (r_addR ((i + wb.length : Nat) : Int) rfl rfl (by omega) (by omega) (by omega) ?_)
      refine GoL.stepS rfl rfl (mvI rfl ?_)
      refine GoL.stepS rfl rfl (r_cv_u32 tt51 tt68 rfl (by omega) (by omega) ?_)
      refine GoL.stepS rfl rfl (r_indexAddrN tt47 tt68 rfl rfl (by omega) ?_)
      refine GoL.step0 rfl (r_store1 tt68 rfl rfl H .head rfl (by rw [List.size_toArray, List.length_map]; omega) ?_); clear H; intro w H
      refine GoL.nil ?_
      refine Goes.inBlock (Goes.region ?_)
      first | refine GoL.stepS rfl rfl (r_addI rfl rfl (by omega) (by omega) ?_) | refine GoL.stepS rfl rfl (r_add rfl rfl ?_)
      refine GoL.stepS rfl rfl (mvI rfl ?_)
      refine GoL.nil ?_
      refine again (i + 1) _ _ ⟨by rfl, trivial⟩ (.of_strip (by kernel_rfl)) ⟨by omega, ?_⟩ (by omega)
      rw [Nat.mul_one, Nat.zero_add] at H
      rw [mulOut, ← row_set]
      exact H
  · have hi' : i = wa.length := by have h1 : ¬ ((i : Int) < (n : Int)) := by simpa using hc
                                   omega
    subst hi'
    refine Goes.exit rfl (Goes.seq (Goes.region ?_))
    refine GoL.stepS rfl rfl (mvL rfl ?_)
    obtain ⟨H, hle⟩ := H.freeze (i := 0) .head
    have hrow : Row32 (E.M.put b19 (.cells ((mulOut wa wb wa.length).map uv).toArray 68)) (some ⟨b19, 0, none⟩) (wa.length + wb.length) (wa.length + wb.length) (mulOut wa wb wa.length) :=
      ⟨(mulOut_length _ _ _).symm, Nat.le_refl _, by omega, mulOut_small ha.small hb.small _, .put (by simp [List.take_of_length_le]) (by simp)⟩
    refine GoL.stepS rfl rfl (r_call cc72 (trim_spec hrow) H ?_); clear H; rintro v72 M72 L72 w hM72 ⟨rfl, rfl, n72, rfl, h72⟩ H
    refine GoL.step0 rfl (stA tt49 rfl rfl H (by repeat constructor) rfl rfl (by rfl) ?_); clear H; intro w H
    refine GoL.nil ?_
    exact Goes.ret (ret1 (v := .agg #[.slice _ _ _]) rfl rfl (res_agg rfl tt49 (H.own (by repeat constructor)) rfl (by rfl)) H.nil ⟨rfl, _, _, _, rfl, h72⟩)

end Go.Proofs.YtlcpdkckldlceaaGreatDoor
namespace Go.Proofs.YtlcpdkckldlceaaGreatDoor
open Go.Sx Go.Nat32
attribute [local irreducible] pt sl itc
set_option maxRecDepth 100000

theorem backward32_spec {M : RO} {a : Option Addr} {n c : Nat} : Sp Tryz.prog 102 [.slice a n c] M [] fun v M' L' => L' = [] ∧ ∃ b, v = .func (.func 127) #[] #[.pointer (some ⟨b, 0, none⟩)] ∧ M' b = some (.cells #[.slice a n c] 47) := by
  refine Sp.enter (n := 4) Tryz.func102 rfl Tryz.ntmps102 rfl ?_
  intro E hE H
  subst hE
  refine Goes.seq (Goes.region ?_)
  refine GoL.stepS rfl rfl (bxL rfl H ?_); clear H; intro b1 w hb1 H
  refine GoL.stepS rfl rfl (r_as rfl ?_)
  refine GoL.nil ?_
  refine Goes.seq (Goes.region ?_)
  refine GoL.stepS rfl rfl (r_mkF (fa := []) (fb := [.pointer _]) (by rfl) (by rfl) ?_)
  refine GoL.stepS rfl rfl (asF rfl ?_)
  refine GoL.nil ?_
  obtain ⟨M1, h1, hle1, H⟩ := H.freezeX (i := 0) .head
  exact Goes.ret (ret1 (v := .func _ _ _) rfl rfl rfl H.nil ⟨rfl, _, rfl, h1⟩)

theorem backward32f_spec {M0 M : RO} {L : List HProp} {l b1 : Nat} {a : Option Addr} {n c : Nat} {ws : List Nat} (h1 : M0 b1 = some (.cells #[.slice a n c] 47)) (hr : Row32 M0 a n c ws)
    (Inv : Nat → RO → List HProp → Prop) (Stop : Nat → RO → List HProp → Prop)
    (hy : ∀ i M L, i < n → M0.le M → Inv (i + 1) M L → YSp Tryz.prog l [.int .i64 (i : Int), .int .u32 (ws.getD i 0 : Nat)] M L fun b M' L' => if b then Inv i M' L' else Stop i M' L')
    (hM : M0.le M) (h0 : Inv n M L) : Sp Tryz.prog 127 [.func (.yield l) #[] #[], .pointer (some ⟨b1, 0, none⟩)] M L fun _ M' L' => M0.le M' ∧ (Inv 0 M' L' ∨ ∃ i, i < n ∧ Stop i M' L') := by
  refine Sp.enter (n := 19) Tryz.func127 rfl Tryz.ntmps127 rfl ?_
  intro E hE H
  subst hE
  have hlen := hr.len
  have hbig := hr.big
  refine Goes.seq (Goes.region ?_)
  refine GoL.stepS rfl rfl (ldL tt47 rfl (H.ro (hM _ _ h1)) (by rfl) ?_)
  refine GoL.stepS rfl rfl (r_lenSlice tt47 rfl ?_)
  first | refine GoL.stepS rfl rfl (r_subI rfl rfl (by omega) (by omega) ?_) | refine GoL.stepS rfl rfl (r_sub rfl rfl ?_)
  refine GoL.stepS rfl rfl (asI rfl ?_)
  refine GoL.nil ?_
  refine Goes.block ?_
  refine Goes.loopS [3, 7, 8, 9, 10, 11, 12, 13, 14, 15, 16, 17, 18] (fun (x : Nat × RO × List HProp) => [(3, .int .i64 ((x.1 : Int) - 1))]) (fun x w => x.1 ≤ n ∧ M0.le x.2.1 ∧ Inv x.1 x.2.1 x.2.2 ∧ Hp E x.2.1 x.2.2 w) (fun x => x.1) (n, E.M, L) ⟨rfl, trivial⟩ ⟨Nat.le_refl _, hM, h0, H⟩ ?_
  clear H
  rintro ⟨i, M, L⟩ f w ⟨hi, hM1, hI, H⟩ again
  dsimp only at hi hM1 hI H
  refine Goes.seq (Goes.seq (Goes.region ?_))
  refine GoL.stepS rfl rfl (mvI rfl ?_)
  refine GoL.stepS rfl rfl (r_geq rfl rfl ?_)
  refine GoL.nil ?_
  refine Goes.cond rfl (fun hc => ?_) (fun hc => ?_)
  · have hi0 : 0 < i := by have : (0 : Int) ≤ (i : Int) - 1 := by simpa using hc
                           omega
    obtain ⟨j, rfl⟩ : ∃ j, i = j + 1 := ⟨i - 1, by omega⟩
    obtain ⟨bb, o, cs, e, z, rfl, hMr, hv⟩ := hr.at (show j < n by omega)
    refine Goes.skip (Goes.seq (Goes.block (Goes.seq (Goes.region ?_))))
    refine GoL.stepS rfl rfl (mvF rfl ?_)
    refine GoL.stepS rfl rfl (r_mv (v := .int .i64 (j : Int)) (congrArg (Value.int .i64) (by dsimp only; omega)) ?_)
    refine GoL.stepS rfl rfl (ldL tt47 rfl (H.ro (hM1 _ _ h1)) (by rfl) ?_)
    refine GoL.stepS rfl rfl (mvI rfl ?_)
    refine GoL.stepS rfl rfl (r_indexR j tt47 tt68 rfl rfl (by dsimp only; omega) (by omega) ?_)
    refine GoL.stepS rfl rfl (ldI tt68 rfl (H.ro (hM1 _ _ hMr)) (by rw [Nat.mul_one]; exact hv) ?_)
    refine GoL.stepS rfl rfl (r_callY (Lr := []) rfl (hy j M L (by omega) hM1 hI) (by rw [List.append_nil]; exact H) ?_); clear H; intro yb M17 L17 w hM17 hp17 H; rw [List.append_nil] at H
    refine GoL.stepS rfl rfl (r_not rfl ?_)
    refine GoL.nil ?_
    refine Goes.cond rfl (fun hb => ?_) (fun hb => ?_)
    · exact Goes.ret (ret0 rfl rfl H ⟨hM1.trans hM17, .inr ⟨j, by omega, by rw [if_neg (by simpa using hb)] at hp17; exact hp17⟩⟩)
    · have : yb = true := by simpa using hb
      subst this
      refine Goes.skip (Goes.inBlock (Goes.region ?_))
      refine GoL.stepS rfl rfl (mvI rfl ?_)
      refine GoL.stepS rfl rfl (r_subR ((j : Int) - 1) rfl rfl (by dsimp only; omega) (by omega) (by omega) ?_)
      refine GoL.stepS rfl rfl (asI rfl ?_)
      refine GoL.nil ?_
      exact again (j, M17, L17) _ _ ⟨rfl, trivial⟩ (.of_strip (by kernel_rfl)) ⟨by omega, hM1.trans hM17, hp17, H⟩ (by simp)
  · have hi0 : i = 0 := by have : ¬ (0 : Int) ≤ (i : Int) - 1 := by simpa using hc
                           omega
    subst hi0
    refine Goes.exit rfl ?_
    exact Goes.done (end0 rfl rfl H ⟨hM1, .inl hI⟩)

theorem short_spec {M : RO} {a : Option Addr} {n c k : Nat} {ws : List Nat} (hr : Row32 M a n c ws) (hk : 0 < k) (hk' : k < 4294967296) :
    Sp Tryz.prog 75 [.agg #[.slice a n c], .int .u64 (k : Int)] M [] fun v M' L' => L' = [] ∧ ∃ a n c, v = .tuple #[.agg #[.slice a n c], .int .u64 ((divW k ws).2 : Int)] ∧ Row32 M' a n c (trimz (divW k ws).1) := by
  refine Sp.enter (n := 38) Tryz.func75 rfl Tryz.ntmps75 rfl ?_
  intro E hE H
  subst hE
  have hlen := hr.len
  have hbig := hr.big
  refine Goes.seq (Goes.region ?_)
  refine GoL.stepS rfl rfl (bxA rfl H ?_); clear H; intro b2 w hb2 H
  refine GoL.stepS rfl rfl (bxI rfl H ?_); clear H; intro b3 w hb3 H
  refine GoL.stepS rfl rfl (r_alloc tt49 H ?_); clear H; intro b4 w hb4 H
  refine GoL.stepS rfl rfl (asI rfl ?_)
  refine GoL.nil ?_
  refine Goes.seq (Goes.region ?_)
  first | refine GoL.stepS rfl rfl (r_fieldAddr0 fo49_0 rfl ?_) | refine GoL.stepS rfl rfl (r_fieldAddr fo49_0 rfl ?_)
  refine GoL.stepS rfl rfl (ldL tt47 rfl (H.own (by repeat constructor)) (by rfl) ?_)
  refine GoL.stepS rfl rfl (r_lenSlice tt47 rfl ?_)
  refine GoL.stepS rfl rfl (r_mkS1 (z := uv 0) (l := ws.length) (cp := ws.length) tt47 tt68 rfl rfl (congrArg Int.ofNat hlen) rfl (congrArg Int.ofNat hlen) (Nat.le_refl _) rfl (by omega) H ?_); clear H; intro b14 w hb14 H
  refine GoL.stepS rfl rfl (r_alloc tt47 H ?_); clear H; intro b6 w hb6 H
  refine GoL.step0 rfl (stL tt47 rfl rfl H (by repeat constructor) (by rfl) ?_); clear H; intro w H
  refine GoL.nil ?_
  refine Goes.seq (Goes.region ?_)
  refine GoL.stepS rfl rfl (r_alloc tt51 H ?_); clear H; intro b7 w hb7 H
  refine GoL.nil ?_
  refine Goes.seq (Goes.seq (Goes.region ?_))
  first | refine GoL.stepS rfl rfl (r_fieldAddr0 fo49_0 rfl ?_) | refine GoL.stepS rfl rfl (r_fieldAddr fo49_0 rfl ?_)
  refine GoL.stepS rfl rfl (ldL tt47 rfl (H.own (by repeat constructor)) (by rfl) ?_)
  obtain ⟨M1, h6, hle1, H⟩ := H.freezeX (i := 1) (.tail .head)
  obtain ⟨M2, h3, hle2, H⟩ := H.freezeX (i := 3) (.tail (.tail (.tail .head)))
  obtain ⟨M3, h2, hle3, H⟩ := H.freezeX (i := 3) (.tail (.tail (.tail .head)))
  have hr3 := hr.mono (hle1.trans (hle2.trans hle3))
  refine GoL.stepS rfl rfl (r_call cc102 (backward32_spec) H ?_); clear H; rintro v17 M17 L17 w hM17 ⟨rfl, b17, rfl, h17⟩ H
  refine GoL.nil ?_
  refine Goes.block ?_
  have hr4 := hr3.mono hM17
  refine Goes.rangeS (caps := [_]) rfl rfl rfl (Lin := [_, _]) H ?_
  clear H
  intro l r tmps o ho hsim
  refine ⟨_, backward32f_spec h17 hr4 (fun i M L => M = M17 ∧ L = [pt l (o .ready none), pt b7 (.cells #[.int .u64 ((divW k (ws.drop i)).2 : Int)] 51), pt b14 (.cells ((divRow k ws i).map uv).toArray 68)]) (fun _ _ _ => False) ?_ (RO.le.refl _) ⟨rfl, ?_⟩, ?_⟩
  · rintro i M L hi hM ⟨rfl, rfl⟩
    refine (ysp_of_goes ho (vs := [_, _]) (Post := fun j M' L' => j = none ∧ M' = M ∧ L' = [pt b7 (.cells #[.int .u64 ((divW k (ws.drop i)).2 : Int)] 51), pt b14 (.cells ((divRow k ws i).map uv).toArray 68)]) hsim rfl rfl ?_).mono ?_
    · intro E' hE' H
      have hil : i < ws.length := by omega
      have hrl : (divRow k ws (i + 1)).length = ws.length := divRow_length (by omega)
      have hsx := hr.small.getD i
      have hll := divW_lt hk (ws.drop (i + 1))
      have hq : ((divW k (ws.drop (i + 1))).2 * 4294967296 + ws.getD i 0) / k < 4294967296 := by
        rw [Nat.div_lt_iff_lt_mul hk]
        have h3 : ((divW k (ws.drop (i + 1))).2 + 1) * 4294967296 ≤ k * 4294967296 := Nat.mul_le_mul_right _ hll
        rw [Nat.mul_comm 4294967296 k]; omega
      refine Goes.seq (Goes.region ?_)
      refine GoL.stepS rfl rfl (asI rfl ?_)
      refine GoL.nil ?_
      refine Goes.region ?_
      refine GoL.stepS rfl rfl (asI rfl ?_)
      refine GoL.nil ?_
      refine Goes.beginR rfl ho H ?_
      clear H; intro w H
      refine Goes.block (Goes.seq (Goes.region ?_))
      refine GoL.stepS rfl rfl (ldI tt51 rfl (H.own (.tail .head)) (by rfl) ?_)
      refine GoL.stepS rfl rfl (r_shlR (((divW k (ws.drop (i + 1))).2 * 4294967296 : Nat) : Int) 4294967296 rfl rfl (by decide) (by decide) (wrap_u64 (by omega) (by omega)) ?_)
      refine GoL.stepS rfl rfl (mvI rfl ?_)
      first | refine GoL.stepS rfl rfl (r_cv_u64 tt68 tt51 rfl (by omega) (by omega) ?_) | refine GoL.stepS rfl rfl (r_convInt tt68 tt51 rfl ?_)
      refine GoL.stepS rfl rfl (r_orR (((divW k (ws.drop (i + 1))).2 * 4294967296 + ws.getD i 0 : Nat) : Int) rfl rfl (or_words (by omega) hsx) ?_)
      refine GoL.stepS rfl rfl (asI rfl ?_)
      refine GoL.nil ?_
      refine Goes.regionDX mixed (by kernel_rfl) 13 H ?_
      refine Ver.read (v := .slice _ _ _) 0 rfl (by kernel_rfl) (fun M' L' w hM H => ldL tt47 rfl (H.ro (hM _ _ (hM17 _ _ (hle3 _ _ (hle2 _ _ h6))))) (by rfl) ⟨rfl, rfl⟩) ?_
      refine Ver.read (v := .int _ _) 1 rfl (by kernel_rfl) (fun M' L' w hM H => mvI rfl ⟨rfl, rfl⟩) ?_
      refine Ver.read (v := .int _ _) 2 rfl (by kernel_rfl) (fun M' L' w hM H => mvI rfl ⟨rfl, rfl⟩) ?_
      refine Ver.read (v := .int _ _) 3 rfl (by kernel_rfl) (fun M' L' w hM H => ldI tt51 rfl (H.ro (hM _ _ (hM17 _ _ (hle3 _ _ h3)))) (by rfl) ⟨rfl, rfl⟩) ?_
      refine Ver.read (v := .int _ _) 4 rfl (by kernel_rfl) (fun M' L' w hM H => r_quoUR ((((divW k (ws.drop (i + 1))).2 * 4294967296 + ws.getD i 0) / k : Nat) : Int) rfl rfl (by omega) (by omega) (by omega) (by simp) ⟨rfl, rfl⟩) ?_
      refine Ver.read (v := .int _ _) 5 rfl (by kernel_rfl) (fun M' L' w hM H => r_cv_u32 tt51 tt68 rfl (Int.natCast_nonneg _) (by omega) ⟨rfl, rfl⟩) ?_
      refine Ver.read (v := .int _ _) 6 rfl (by kernel_rfl) (fun M' L' w hM H => mvI rfl ⟨rfl, rfl⟩) ?_
      refine Ver.read (v := .int _ _) 7 rfl (by kernel_rfl) (fun M' L' w hM H => ldI tt51 rfl (H.ro (hM _ _ (hM17 _ _ (hle3 _ _ h3)))) (by rfl) ⟨rfl, rfl⟩) ?_
      refine Ver.read (v := .int _ _) 8 rfl (by kernel_rfl) (fun M' L' w hM H => r_remR ((((divW k (ws.drop (i + 1))).2 * 4294967296 + ws.getD i 0) % k : Nat) : Int) rfl rfl (by omega) (by omega) (by simp) ⟨rfl, rfl⟩) ?_
      refine Ver.read (v := .pointer _) 9 rfl (by kernel_rfl) (fun M' L' w hM H => r_indexAddrN tt47 tt68 rfl rfl (by omega) ⟨rfl, rfl⟩) ?_
      refine Ver.nextX 10 (by kernel_rfl) rfl (by kernel_rfl) ?_
      clear H; intro w H
      refine r_store1 tt68 rfl rfl H (.tail (.tail .head)) rfl (by rw [List.size_toArray, List.length_map]; omega) ?_
      clear H; intro w H
      refine ⟨_, _, RO.le.refl _, H, ?_⟩
      refine Ver.nextX 11 (by kernel_rfl) rfl (by kernel_rfl) ?_
      clear H; intro w H
      refine stI tt51 rfl rfl H (.tail .head) (by rfl) ?_
      clear H; intro w H
      refine ⟨_, _, RO.le.refl _, H, ?_⟩
      refine Ver.finX (by kernel_rfl) ?_
      clear H; intro w H
      refine Goes.inBlock ?_
      refine Goes.done (roundOK H ⟨rfl, rfl, ?_⟩)
      rw [Nat.mul_one, Nat.zero_add]
      show [_, pt b14 (.cells (((divRow k ws (i + 1)).map uv).toArray.setIfInBounds i (uv _)) 68)] = _
      rw [row_set, divRow_step hil, divRow_left hil]
    · rintro b M' L' _ ⟨j, L'', rfl, rfl, rfl, rfl, rfl⟩
      exact ⟨rfl, rfl⟩
  · rw [hlen, List.drop_length, divRow, List.drop_length, divW, List.append_nil, List.map_replicate]
    rfl
  · rintro v M' L' w hM' ⟨_, ⟨rfl, rfl⟩ | ⟨i, _, hf⟩⟩ H
    · refine Goes.endN ho H .head (.inl rfl) ?_
      clear H
      intro w H
      obtain ⟨M4, h7, hle4, H⟩ := H.freezeX (i := 0) .head
      obtain ⟨M5, h14, hle5, H⟩ := H.freezeX (i := 0) .head
      have hdl := divRow_length (k := k) (ws := ws) (i := 0) (Nat.zero_le _)
      have hrow : Row32 M5 (some ⟨b14, 0, none⟩) ws.length ws.length (divRow k ws 0) :=
        ⟨hdl.symm, Nat.le_refl _, by omega, divW_small hk hr.small, .inr ⟨b14, 0, _, _, _, rfl, h14, by simp, by simp [List.take_of_length_le]⟩⟩
      refine Goes.inBlock (Goes.seq ?_)
      refine Goes.regionDX mixed (by kernel_rfl) 6 H ?_
      refine Ver.read (v := .slice _ _ _) 0 rfl (by kernel_rfl) (fun M' L' w hM H => ldL tt47 rfl (H.ro (hM _ _ (hle5 _ _ (hle4 _ _ (hM17 _ _ (hle3 _ _ (hle2 _ _ h6))))))) (by rfl) ⟨rfl, rfl⟩) ?_
      refine Ver.read (v := .int _ _) 2 rfl (by kernel_rfl) (fun M' L' w hM H => ldI tt51 rfl (H.ro (hM _ _ (hle5 _ _ h7))) (by rfl) ⟨rfl, rfl⟩) ?_
      refine Ver.nextX 1 (by kernel_rfl) rfl (by kernel_rfl) ?_
      clear H; intro w H
      refine r_call cc72 (trim_spec hrow) H ?_
      clear H; rintro v36 M36 L36 w hM36 ⟨rfl, rfl, n36, rfl, h36⟩ H
      refine ⟨_, _, hM36, H, ?_⟩
      refine Ver.nextX 3 (by kernel_rfl) rfl (by kernel_rfl) ?_
      clear H; intro w H
      refine stA tt49 rfl rfl H (by repeat constructor) rfl rfl (by rfl) ?_
      clear H; intro w H
      refine ⟨_, _, RO.le.refl _, H, ?_⟩
      refine Ver.read (v := .int _ _) 4 rfl (by kernel_rfl) (fun M' L' w hM H => asI rfl ⟨rfl, rfl⟩) ?_
      refine Ver.finX (by kernel_rfl) ?_
      clear H; intro w H
      refine Goes.ret (retD (L := [pt b4 (.cells #[.slice (some ⟨b14, 0, none⟩) n36 ws.length] 49)]) (.inr rfl) H fun w ρ' hg hd H => ?_)
      refine ret2 (v := .agg #[.slice _ _ _]) (v' := .int _ _) rfl hd (res_agg (by rw [hg]; rfl) tt49 (H.own .head) rfl (by rfl)) (show ρ'.get 5 = _ by rw [hg]; rfl) H.nil ⟨rfl, _, _, _, rfl, h36⟩
    · exact hf.elim

end Go.Proofs.YtlcpdkckldlceaaGreatDoor
namespace Go.Proofs.YtlcpdkckldlceaaGreatDoor
open Go.Sx Go.Nat32
attribute [local irreducible] pt sl itc
set_option maxRecDepth 100000

theorem NatV.of_row {M : RO} {a : Option Addr} {n c x : Nat} {ws : List Nat} (h : Row32 M a n c (trimz ws)) (hx : wv ws = x) : NatV M (.agg #[.slice a n c]) x :=
  ⟨a, n, c, _, rfl, h, trimz_canon _, by rw [wv_trimz, hx]⟩

theorem addN {M : RO} {v u : Value} {x y k : Nat} (hx : NatV M v x) (hy : NatV M u y) (lx : lim k x) (ly : lim k y) (hk : k ≤ 1000000) :
    Sp Tryz.prog 32 [v, u] M [] fun r M' L' => L' = [] ∧ NatV M' r (x + y) := by
  obtain ⟨a, n, c, wa, rfl, ha, ca, rfl⟩ := hx
  obtain ⟨a', n', c', wb, rfl, hb, cb, rfl⟩ := hy
  have h1 := canon_len ca lx; have h2 := canon_len cb ly
  have h3 := ha.len; have h4 := hb.len
  refine (add_spec ha hb (by omega) (by omega)).mono ?_
  rintro r M' L' _ ⟨rfl, a, n, c, rfl, h⟩
  exact ⟨rfl, NatV.of_row h (wv_add _ _)⟩
theorem mulN {M : RO} {v u : Value} {x y k l : Nat} (hx : NatV M v x) (hy : NatV M u y) (lx : lim k x) (ly : lim l y) (hk : k ≤ 1000000) (hl : l ≤ 1000000) :
    Sp Tryz.prog 33 [v, u] M [] fun r M' L' => L' = [] ∧ NatV M' r (x * y) := by
  obtain ⟨a, n, c, wa, rfl, ha, ca, rfl⟩ := hx
  obtain ⟨a', n', c', wb, rfl, hb, cb, rfl⟩ := hy
  have h1 := canon_len ca lx; have h2 := canon_len cb ly
  have h3 := ha.len; have h4 := hb.len
  refine (mul_spec ha hb (by omega)).mono ?_
  rintro r M' L' _ ⟨rfl, a, n, c, rfl, h⟩
  exact ⟨rfl, NatV.of_row h (wv_mul _ _)⟩
theorem smallN {M : RO} {v : Value} {x m plus k : Nat} (hx : NatV M v x) (lx : lim k x) (hk : k ≤ 1000000) (hm : m ≤ 4294967295) (hp : plus < 4294967296) :
    Sp Tryz.prog 92 [v, .int .u64 (m : Int), .int .u64 (plus : Int)] M [] fun r M' L' => L' = [] ∧ NatV M' r (x * m + plus) := by
  obtain ⟨a, n, c, wa, rfl, ha, ca, rfl⟩ := hx
  have h1 := canon_len ca lx
  have h3 := ha.len
  refine (small_spec ha (by omega) hm hp).mono ?_
  rintro r M' L' _ ⟨rfl, a, n, c, rfl, h⟩
  exact ⟨rfl, NatV.of_row h (wv_smallStep _ _ _)⟩
theorem fromUint64N {M : RO} {x : Nat} (hx : x < 18446744073709551616) : Sp Tryz.prog 25 [.int .u64 (x : Int)] M [] fun r M' L' => L' = [] ∧ NatV M' r x := by
  refine (fromUint64_spec hx).mono ?_
  rintro r M' L' _ ⟨rfl, a, n, c, rfl, h⟩
  exact ⟨rfl, NatV.of_row h (by simp only [wv]; omega)⟩
theorem isZeroN {M : RO} {v : Value} {x : Nat} (hx : NatV M v x) : Sp Tryz.prog 74 [v] M [] fun r M' L' => L' = [] ∧ M' = M ∧ r = .bool (decide (x = 0)) := by
  obtain ⟨a, n, c, wa, rfl, ha, ca, rfl⟩ := hx
  refine isZero_spec.mono ?_
  rintro r M' L' _ ⟨rfl, rfl, rfl⟩
  refine ⟨rfl, rfl, ?_⟩
  have h3 := ha.len
  congr 1
  rw [decide_eq_decide]
  constructor
  · intro h
    have : wa = [] := List.eq_nil_of_length_eq_zero (by omega)
    rw [this]; rfl
  · intro h
    by_cases hw : wa = []
    · rw [h3, hw]; rfl
    · have := wv_ge ca hw
      have h2 : 0 < (4294967296 : Nat) ^ (wa.length - 1) := Nat.pow_pos (by decide)
      omega
theorem shortN {M : RO} {v : Value} {x k : Nat} (hx : NatV M v x) (hk : 0 < k) (hk' : k < 4294967296) :
    Sp Tryz.prog 75 [v, .int .u64 (k : Int)] M [] fun r M' L' => L' = [] ∧ ∃ a n c, r = .tuple #[.agg #[.slice a n c], .int .u64 ((x % k : Nat) : Int)] ∧ NatV M' (.agg #[.slice a n c]) (x / k) := by
  obtain ⟨a, n, c, wa, rfl, ha, ca, rfl⟩ := hx
  refine (short_spec ha hk hk').mono ?_
  rintro r M' L' _ ⟨rfl, a, n, c, rfl, h⟩
  have := divW_spec hk wa
  exact ⟨rfl, a, n, c, by rw [this.2], NatV.of_row h this.1⟩

end Go.Proofs.YtlcpdkckldlceaaGreatDoor
namespace Go.Proofs.YtlcpdkckldlceaaGreatDoor
open Go.Sx Go.Nat32
set_option maxRecDepth 100000

theorem laidK : laidOutB Tryz.prog = true := by kernel_rfl
theorem rowK : 90 < Tryz.prog.types.size := Nat.le_of_ble_eq_true (by kernel_rfl)
theorem keyedP : Maps.Keyed Tryz.prog 90 := Maps.Keyed.of_law (deep_law_gate laidK (Nat.le_of_ble_eq_true (by kernel_rfl)) rowK (by kernel_rfl) (by kernel_rfl))

def keyI (a b : Int) : Value := .agg #[.int .i64 a, .int .i64 b]
def key (a b : Nat) : Value := .agg #[.int .i64 (a : Int), .int .i64 (b : Int)]

theorem und3 : Tryz.prog.underlying 3 = some (.int .i64) := by kernel_rfl
theorem lit3 {d : Nat} {a : Int} (ha : -9223372036854775808 ≤ a ∧ a ≤ 9223372036854775807) : Tryz.prog.keyLits (d + 1) 3 [.int .i64 a] = some [.int .i64 a] := by
  unfold Program.keyLits
  rw [und3]
  have : (Lit.int .i64 a).wf = true := by
    show (decide ((-9223372036854775808 : Int) ≤ a) && decide (a ≤ 9223372036854775807)) = true
    simp; omega
  simp [this]

theorem key_okI {a b : Int} (ha : -9223372036854775808 ≤ a ∧ a ≤ 9223372036854775807) (hb : -9223372036854775808 ≤ b ∧ b ≤ 9223372036854775807) : ∃ l, keyOf Tryz.prog 90 (keyI a b) = some l := by
  have hu : ∃ f0 f1, Tryz.prog.underlying 90 = some (.struct #[f0, f1]) ∧ f0.type = 3 ∧ f0.offset = 0 ∧ f1.type = 3 ∧ f1.offset = 1 ∧ (f0.name != "_") = true ∧ (f1.name != "_") = true := ⟨_, _, rfl, rfl, rfl, rfl, rfl, rfl, rfl⟩
  obtain ⟨f0, f1, hu, h1, h2, h3, h4, h5, h6⟩ := hu
  have c3 : Tryz.prog.cellsOf 3 = 1 := by kernel_rfl
  have ck : Tryz.prog.cellsOf 90 = 2 := by kernel_rfl
  have hkt : Tryz.prog.keyType 90 = true := by kernel_rfl
  have hl : Tryz.prog.keyLits (Tryz.prog.types.size + 1) 90 [.int .i64 a, .int .i64 b] = some [.int .i64 a, .int .i64 b] := by
    have hs : ∃ d, Tryz.prog.types.size = d + 1 := ⟨Tryz.prog.types.size - 1, by have := rowK; omega⟩
    obtain ⟨d, hd⟩ := hs
    rw [hd]
    unfold Program.keyLits
    rw [hu]
    simp [h1, h2, h3, h4, c3, ck, lit3 ha, lit3 hb, h5, h6]
  unfold keyOf
  rw [hu]
  refine ⟨Lit.string (keyBytes [.int .i64 a, .int .i64 b]), ?_⟩
  simp only [hkt]
  have hf : Value.formed Tryz.prog 90 (keyI a b) = true := by
    show (match Tryz.prog.underlying 90 with | some (.struct _) | some (.array _ _) => (2 : Nat) == Tryz.prog.cellsOf 90 | _ => false) = true
    rw [hu, ck]; rfl
  rw [hf]
  show Option.map _ (Tryz.prog.keyLits (Tryz.prog.types.size + 1) 90 [.int .i64 a, .int .i64 b]) = _
  rw [hl]; rfl
theorem key_ok {a b : Nat} (ha : a ≤ 4611686018427387904) (hb : b ≤ 4611686018427387904) : ∃ l, keyOf Tryz.prog 90 (key a b) = some l := key_okI (by omega) (by omega)

theorem key_inj {a b c d : Nat} : key a b = key c d ↔ a = c ∧ b = d := by
  simp [key]; omega

/-- The entries stand for the coefficients f. -/
structure Ents (M : RO) (f : Nat → Nat → Nat) (es : List MapEntry) : Prop where
  sound : ∀ e ∈ es, ∃ a b, e.key = key a b ∧ a ≤ 2048 ∧ b ≤ 2048 ∧ f a b ≠ 0 ∧ NatV M e.val (f a b)
  complete : ∀ a b, f a b ≠ 0 → ∃ e ∈ es, e.key = key a b

theorem Ents.mono {M M' : RO} {f : Nat → Nat → Nat} {es : List MapEntry} (h : Ents M f es) (hM : M.le M') : Ents M' f es :=
  ⟨fun e he => let ⟨a, b, h1, h2, h3, h4, h5⟩ := h.sound e he; ⟨a, b, h1, h2, h3, h4, h5.mono hM⟩, h.complete⟩
theorem Ents.nil (M : RO) : Ents M (fun _ _ => 0) [] := ⟨(fun e he => by cases he), fun a b h => absurd rfl h⟩

/-- The value stands for the polynomial with the coefficients f. -/
def PolyV (M : RO) (v : Value) (f : Nat → Nat → Nat) : Prop := ∃ r es ck, v = .agg #[.map r] ∧ MRow Tryz.prog M 90 r es ck ∧ Ents M f es

theorem PolyV.mono {M M' : RO} {v : Value} {f : Nat → Nat → Nat} (h : PolyV M v f) (hM : M.le M') : PolyV M' v f :=
  let ⟨r, es, ck, h1, h2, h3⟩ := h; ⟨r, es, ck, h1, h2.mono hM, h3.mono hM⟩
theorem PolyV.zero (M : RO) : PolyV M (.agg #[.map none]) fun _ _ => 0 := ⟨none, [], 0, rfl, .nil _ _ _, .nil _⟩

theorem Ents.find {M : RO} {f : Nat → Nat → Nat} {es : List MapEntry} (h : Ents M f es) {a b : Nat} {o : Option MapEntry} (ho : FindOK es (key a b) o) : NatV M ((o.map (·.val)).getD (.agg #[.slice none 0 0])) (f a b) := by
  cases o with
  | none =>
    have : f a b = 0 := by
      by_cases h0 : f a b = 0
      · exact h0
      · obtain ⟨e, he, hk⟩ := h.complete a b h0
        exact absurd hk (ho e he)
    rw [this]; exact NatV.zero M
  | some e =>
    obtain ⟨he, hk⟩ := ho
    obtain ⟨c, d, h1, _, _, _, h5⟩ := h.sound e he
    obtain ⟨rfl, rfl⟩ := key_inj.1 (h1.symm.trans hk)
    exact h5

def upd (f : Nat → Nat → Nat) (a b y : Nat) : Nat → Nat → Nat := fun c d => if c = a ∧ d = b then y else f c d

theorem Ents.put {M : RO} {f : Nat → Nat → Nat} {es es' : List MapEntry} (h : Ents M f es) {a b y : Nat} {v : Value} (ha : a ≤ 2048) (hb : b ≤ 2048) (hp : PutOK es (key a b) v es') (hy : y ≠ 0) (hv : NatV M v y) : Ents M (upd f a b y) es' where
  sound := fun e he => by
    rcases hp.only e he with ⟨hk, hev⟩ | ⟨he', hne⟩
    · have : upd f a b y a b = y := by simp [upd]
      exact ⟨a, b, hk, ha, hb, by rw [this]; exact hy, by rw [this, hev]; exact hv⟩
    · obtain ⟨c, d, h1, h2, h3, h4, h5⟩ := h.sound e he'
      have hcd : ¬ (c = a ∧ d = b) := by
        rintro ⟨rfl, rfl⟩; exact hne h1
      have : upd f a b y c d = f c d := by simp only [upd, if_neg hcd]
      exact ⟨c, d, h1, h2, h3, by rw [this]; exact h4, by rw [this]; exact h5⟩
  complete := fun c d hcd => by
    by_cases hc : c = a ∧ d = b
    · obtain ⟨rfl, rfl⟩ := hc
      obtain ⟨e, he, hk, _⟩ := hp.new
      exact ⟨e, he, hk⟩
    · simp only [upd, if_neg hc] at hcd
      obtain ⟨e, he, hk⟩ := h.complete c d hcd
      exact ⟨e, hp.old e he (by rw [hk]; intro hh; exact hc (key_inj.1 hh)), hk⟩

theorem Ents.same {M : RO} {f : Nat → Nat → Nat} {es : List MapEntry} (h : Ents M f es) {a b : Nat} : Ents M (upd f a b (f a b + 0)) es := by
  have : upd f a b (f a b + 0) = f := by
    funext c d
    by_cases hc : c = a ∧ d = b
    · simp [upd, hc]
    · simp [upd, hc]
  rw [this]; exact h

theorem _root_.Go.Nat32.NatV.shape {M : RO} {v : Value} {x : Nat} (h : NatV M v x) : ∃ a n c, v = .agg #[.slice a n c] := let ⟨a, n, c, _, h1, _⟩ := h; ⟨a, n, c, h1⟩

theorem _root_.Go.Sx.FindOK.ex (es : List MapEntry) (k : Value) : ∃ o, FindOK es k o := by
  by_cases h : ∃ e ∈ es, e.key = k
  · obtain ⟨e, he, hk⟩ := h; exact ⟨some e, he, hk⟩
  · exact ⟨none, fun e he hk => h ⟨e, he, hk⟩⟩
theorem _root_.Go.Sx.FindOK.uniq {P : Program} {kt : TypeId} {es : List MapEntry} {ck : Nat} {k : Value} {o o' : Option MapEntry} (hm : MOk P kt es ck) (h : FindOK es k o) (h' : FindOK es k o') : o = o' := by
  cases o with
  | none =>
    cases o' with
    | none => rfl
    | some e => exact absurd h'.2 (h e h'.1)
  | some e =>
    cases o' with
    | none => exact absurd h.2 (h' e h.1)
    | some e' => rw [inj_of_nodup_map _ es hm.nodup e h.1 e' h'.1 (h.2.trans h'.2.symm)]

end Go.Proofs.YtlcpdkckldlceaaGreatDoor
