/-
  Derivatives, coefficients of y, the ring, texts of polynomials.
-/
import Derived.Test.YtlcpdkckldlceaaGreatDoorFI
import Derived.Test.YtlcpdkckldlceaaGreatDoorFG
namespace Go.Proofs.YtlcpdkckldlceaaGreatDoor
open Go.Sx Go.Nat32 Go.Dec Go.PolyL
attribute [local irreducible] pt sl itc itm
set_option maxRecDepth 100000
set_option linter.unusedVariables false
set_option linter.unusedSimpArgs false
set_option maxHeartbeats 1000000

theorem dT_perm {M : RO} {f : Nat → Nat → Nat} {es D : List MapEntry} {ck : Nat} (h : Ents M f es) (hm : MOk Tryz.prog 90 es ck) (hp : D.Perm es) : dT f (D.map ex) = diffF f := by
  have hb : ∀ a b, f a b ≠ 0 → a ≤ 2048 ∧ b ≤ 2048 := fun a b h0 => by
    obtain ⟨e, he, hk⟩ := h.complete a b h0
    have := mem_box.1 (h.ex_box he).1
    have hx : ex e = (a, b) := by unfold ex; rw [hk, kxy_key]
    rw [hx] at this; exact this
  rw [← dT_box f hb]
  funext a b
  unfold dT
  rw [sumL_map, sumL_perm hp]
  exact h.sum hm (F := fun k => if k.1 = a + 1 ∧ k.2 = b then f k.1 k.2 * k.1 else 0) fun k hk => by split <;> simp [hk]

theorem dT_lim {f : Nat → Nat → Nat} {k : Nat} (lf : ∀ a b, lim k (f a b)) {D : List (Nat × Nat)} (h1 : D.length ≤ 2049 * 2049) (hD : ∀ q ∈ D, q.1 ≤ 2048) (a b : Nat) : lim (k + 2) (dT f D a b) := by
  have p5 : 0 < 4294967296 ^ k := Nat.pow_pos (by decide)
  have p1 : dT f D a b ≤ D.length * (4294967296 ^ k * 2048) := sumL_le fun q hq => by
    split
    · exact Nat.mul_le_mul (Nat.le_of_lt (lf _ _)) (hD q hq)
    · exact Nat.zero_le _
  have p3 : D.length * (4294967296 ^ k * 2048) ≤ 2049 * 2049 * (4294967296 ^ k * 2048) := Nat.mul_le_mul_right _ h1
  unfold lim
  rw [Nat.pow_add, show (4294967296 : Nat) ^ 2 = 18446744073709551616 from rfl]
  generalize 4294967296 ^ k = z at *
  omega

theorem pdiff_spec {M : RO} {v : Value} {f : Nat → Nat → Nat} {k : Nat} (hv : PolyV M v f) (lf : ∀ a b, lim k (f a b)) (hk : k ≤ 400000) :
    Sp Tryz.prog 47 [v] M [] fun r M' L' => L' = [] ∧ PolyV M' r (diffF f) := by
  obtain ⟨rv, ev, cv, rfl, hrv, hev⟩ := hv
  refine Sp.enter (n := 33) Tryz.func47 rfl Tryz.ntmps47 rfl ?_
  intro E hE H
  subst hE
  have nv := hev.length hrv.ok
  refine Goes.seq (Goes.region ?_)
  refine GoL.stepS rfl rfl (bxA rfl H ?_); clear H; intro b1 w hb1 H
  refine GoL.stepS rfl rfl (r_alloc tt24 H ?_); clear H; intro b2 w hb2 H
  refine GoL.nil ?_
  refine Goes.seq (Goes.region ?_)
  refine GoL.stepS rfl rfl (r_call cc56 (made_spec) H ?_); clear H; rintro v6 M6 L6 w hM6 ⟨rfl, q, rfl, rfl⟩ H
  refine GoL.stepS rfl rfl (r_alloc tt24 H ?_); clear H; intro b3 w hb3 H
  refine GoL.step0 rfl (stA tt24 rfl rfl H (by repeat constructor) rfl rfl (by rfl) ?_); clear H; intro w H
  refine GoL.nil ?_
  refine Goes.seq (Goes.seq (Goes.region ?_))
  first | refine GoL.stepS rfl rfl (r_fieldAddr0 fo24_0 rfl ?_) | refine GoL.stepS rfl rfl (r_fieldAddr fo24_0 rfl ?_)
  refine GoL.stepS rfl rfl (ldM tt22 rfl (H.own (by repeat constructor)) (by rfl) ?_)
  refine GoL.stepS rfl rfl (r_rangeM tt22 rfl H hrv ?_); clear H; intro b9 w hb9 H
  refine GoL.nil ?_
  refine Goes.block ?_
  refine Goes.loopS (4 :: 5 :: 10 :: 11 :: 12 :: 13 :: 14 :: 15 :: 16 :: 17 :: 18 :: 19 :: 20 :: 21 :: 22 :: 23 :: 24 :: 25 :: 26 :: 27 :: 28 :: 29 :: 30 :: 31 :: []) (fun (_ : List MapEntry × List MapEntry × Nat × RO) => []) (fun x w => DoneOK ev x.1 ∧ MOk Tryz.prog 90 x.2.1 x.2.2.1 ∧ Ents x.2.2.2 (dT f (x.1.map ex)) x.2.1 ∧ E.M.le x.2.2.2 ∧ Hp E x.2.2.2 [pt q (.map x.2.1.toArray x.2.2.1), itm b9 rv cv x.1, pt b3 (.cells #[.map (some q)] 24), pt b2 (.cells #[.map none] 24)] w) (fun x => ev.length - x.1.length) ([], [], 0, E.M) trivial ⟨.nil _, .nil _ _ _, by rw [List.map_nil, dT_nil]; exact .nil _, RO.le.refl _, ?_⟩ ?_
  · exact (H.sel (.cons (by repeat constructor) (.cons (by repeat constructor) (.cons (by repeat constructor) (.cons (by repeat constructor) .nil)))))
  clear H
  rintro ⟨D, es, ck, M1⟩ f1 w ⟨hd, hm, hes, hM1, H⟩ again
  dsimp only at hd hm hes hM1 H
  refine Goes.seq (Goes.region ?_)
  refine GoL.stepS rfl rfl (r_nextM rfl H (.tail .head) (hrv.mono hM1) hd.sub hd.nodup ?_); clear H; intro o10 w ho10 H
  refine GoL.stepS rfl rfl (r_extract (v := .bool o10.isSome) rfl (by cases o10 <;> rfl) ?_)
  refine GoL.nil ?_
  refine Goes.seq ?_
  refine Goes.cond rfl (fun hs => ?_) (fun hs => ?_)
  · obtain ⟨e, rfl⟩ := Option.isSome_iff_exists.1 hs
    obtain ⟨he, hne⟩ := ho10
    obtain ⟨a, b, hkey, ha, hb, h0, hval⟩ := hev.sound e he
    obtain ⟨va, vn, vc, hvv⟩ := hval.shape
    obtain ⟨ek, evv, eb⟩ := e
    dsimp only at hkey hvv hval
    subst hkey hvv
    have hD2 : ∀ q ∈ D.map ex ++ [(a, b)], q.1 ≤ 2048 := fun q hq => by
      rcases List.mem_append.1 hq with hq | hq
      · obtain ⟨e, he, rfl⟩ := List.mem_map.1 hq
        exact (mem_box.1 (hev.ex_box (hd.sub e he)).1).1
      · obtain rfl := List.mem_singleton.1 hq; exact ha
    have hdl := (hd.push he hne).le
    rw [List.length_append, List.length_singleton] at hdl
    have hlim := dT_lim lf (D := D.map ex) (by rw [List.length_map]; omega) fun q hq => hD2 q (List.mem_append_left _ hq)
    refine Goes.skip (Goes.block (Goes.seq (Goes.region ?_)))
    refine GoL.stepS rfl rfl (r_entryM rfl H (.tail .head) (hrv.mono hM1) he ?_)
    refine GoL.stepS rfl rfl (r_extract (v := .agg #[.int _ _, .int _ _]) rfl rfl ?_)
    refine GoL.stepS rfl rfl (r_extract (v := .agg #[.slice _ _ _]) rfl rfl ?_)
    refine GoL.stepS rfl rfl (r_alloc tt90 H ?_); clear H; intro b4 w hb4 H
    refine GoL.stepS rfl rfl (r_alloc tt49 H ?_); clear H; intro b5 w hb5 H
    refine GoL.step0 rfl (stA tt90 rfl rfl H (by repeat constructor) rfl rfl (by rfl) ?_); clear H; intro w H
    refine GoL.step0 rfl (stA tt49 rfl rfl H (by repeat constructor) rfl rfl (by rfl) ?_); clear H; intro w H
    refine GoL.nil ?_
    refine Goes.seq (Goes.region ?_)
    first | refine GoL.stepS rfl rfl (r_fieldAddr0 fo90_0 rfl ?_) | refine GoL.stepS rfl rfl (r_fieldAddr fo90_0 rfl ?_)
    refine GoL.stepS rfl rfl (ldI tt3 rfl (H.own (by repeat constructor)) (by rfl) ?_)
    refine GoL.stepS rfl rfl (r_gtr rfl rfl ?_)
    refine GoL.nil ?_
    refine Goes.cond rfl (fun ha0 => ?_) (fun ha0 => ?_)
    · have hap : 0 < (a : Int) := by simpa using ha0
      obtain ⟨a, rfl⟩ : ∃ a', a = a' + 1 := ⟨a - 1, by omega⟩
      refine Goes.regionD0 mixed (by kernel_rfl) 15 H ?_
      refine Ver.read (v := .agg _) 0 rfl (by kernel_rfl) (fun M' L' w hM H => ldA tt24 rfl (H.own (by repeat constructor)) rfl (by rfl) ⟨rfl, rfl⟩) ?_
      first | refine Ver.read (v := .pointer _) 1 rfl (by kernel_rfl) (fun M' L' w hM H => r_fieldAddr0 fo90_0 rfl ⟨rfl, rfl⟩) ?_ | refine Ver.read (v := .pointer _) 1 rfl (by kernel_rfl) (fun M' L' w hM H => r_fieldAddr fo90_0 rfl ⟨rfl, rfl⟩) ?_
      refine Ver.read (v := .int _ _) 2 rfl (by kernel_rfl) (fun M' L' w hM H => ldI tt3 rfl (H.own (by repeat constructor)) (by rfl) ⟨rfl, rfl⟩) ?_
      refine Ver.read (v := .int _ _) 3 rfl (by kernel_rfl) (fun M' L' w hM H => r_subR (a : Int) rfl rfl (by first | omega | (dsimp only; omega)) (by first | omega | (dsimp only; omega)) (by first | omega | (dsimp only; omega)) ⟨rfl, rfl⟩) ?_
      first | refine Ver.read (v := .pointer _) 4 rfl (by kernel_rfl) (fun M' L' w hM H => r_fieldAddr0 fo90_1 rfl ⟨rfl, rfl⟩) ?_ | refine Ver.read (v := .pointer _) 4 rfl (by kernel_rfl) (fun M' L' w hM H => r_fieldAddr fo90_1 rfl ⟨rfl, rfl⟩) ?_
      refine Ver.read (v := .int _ _) 5 rfl (by kernel_rfl) (fun M' L' w hM H => ldI tt3 rfl (H.own (by repeat constructor)) (by rfl) ⟨rfl, rfl⟩) ?_
      refine Ver.read (v := .agg _) 6 rfl (by kernel_rfl) (fun M' L' w hM H => bld (cells := [.int _ _, .int _ _]) tt90 pl90 pz90 rfl (by rfl) ⟨rfl, rfl⟩) ?_
      refine Ver.read (v := .agg _) 7 rfl (by kernel_rfl) (fun M' L' w hM H => ldA tt49 rfl (H.own (by repeat constructor)) rfl (by rfl) ⟨rfl, rfl⟩) ?_
      first | refine Ver.read (v := .pointer _) 8 rfl (by kernel_rfl) (fun M' L' w hM H => r_fieldAddr0 fo90_0 rfl ⟨rfl, rfl⟩) ?_ | refine Ver.read (v := .pointer _) 8 rfl (by kernel_rfl) (fun M' L' w hM H => r_fieldAddr fo90_0 rfl ⟨rfl, rfl⟩) ?_
      refine Ver.read (v := .int _ _) 9 rfl (by kernel_rfl) (fun M' L' w hM H => ldI tt3 rfl (H.own (by repeat constructor)) (by rfl) ⟨rfl, rfl⟩) ?_
      refine Ver.read (v := .int _ _) 10 rfl (by kernel_rfl) (fun M' L' w hM H => r_cv_u64 tt3 tt51 rfl (by first | omega | (dsimp only; omega)) (by first | omega | (dsimp only; omega)) ⟨rfl, rfl⟩) ?_
      refine Ver.next0 11 (by kernel_rfl) rfl (by kernel_rfl) ?_
      clear H; intro w H
      refine r_call cc25 (fromUint64N (x := a + 1) (by first | omega | (dsimp only; omega))) H ?_
      clear H; rintro v29 M29 L29 w hM29 ⟨rfl, hv29⟩ H
      refine ⟨_, hM29, H, ?_⟩
      refine Ver.next0 12 (by kernel_rfl) rfl (by kernel_rfl) ?_
      clear H; intro w H
      refine r_call cc33 (mulN ((hval.mono hM1).mono hM29) hv29 (lf (a + 1) b) (show lim 1 (a + 1) by unfold lim; omega) (by first | omega | (dsimp only; omega)) (by first | omega | (dsimp only; omega))) H ?_
      clear H; rintro v30 M30 L30 w hM30 ⟨rfl, hv30⟩ H
      refine ⟨_, hM30, H, ?_⟩
      refine Ver.bar0 13 (by kernel_rfl) rfl (by kernel_rfl) ?_
      clear H; intro w H
      refine r_call cc58 (with_spec (k := k + 2) hm (((hes.mono hM29).mono hM30)) hv30 (show a ≤ 2048 by omega) hb (hlim _ _) (((lf (a + 1) b).mul (show lim 1 (a + 1) by unfold lim; omega)).mono (by first | omega | (dsimp only; omega))) (by first | omega | (dsimp only; omega))) (H.front (i := 2) (by repeat constructor)) ?_
      clear H; rintro v31 M31 L31 w hM31 ⟨es', ck', rfl, hm', he'⟩ H
      refine ⟨_, _, hM31, H, ?_⟩
      refine Ver.fin0 (by kernel_rfl) ?_
      clear H; intro w H
      refine Goes.inBlock ?_
      refine again (D ++ [⟨key (a + 1) b, .agg #[.slice va vn vc], eb⟩], es', ck', M31) _ _ trivial (.of_strip (by kernel_rfl)) ⟨hd.push he hne, hm', ?_, hM1.trans (hM29.trans (hM30.trans hM31)), H.sel (.cons (by repeat constructor) (.cons (by repeat constructor) (.cons (by repeat constructor) (.cons (by repeat constructor) .nil))))⟩ (hd.lt he hne)
      dsimp only
      rw [List.map_append, List.map_singleton, ex_mk, ← dT_step]
      have hupd : (upd (dT f (D.map ex)) a b (dT f (D.map ex) a b + f (a + 1) b * (a + 1))) = fun c d => dT f (D.map ex) c d + monoF (f (a + 1) b * (a + 1)) a b c d := by
        funext c d
        unfold monoF upd
        by_cases h : c = a ∧ d = b
        · obtain ⟨rfl, rfl⟩ := h; simp
        · rw [if_neg h, if_neg h]; rfl
      rw [← hupd]; exact he'
    · have ha' : a = 0 := by have : ¬ 0 < (a : Int) := by simpa using ha0
                             omega
      subst ha'
      refine Goes.skip (Goes.inBlock ?_)
      refine again (D ++ [⟨key 0 b, .agg #[.slice va vn vc], eb⟩], es, ck, M1) _ _ trivial (.of_strip (by kernel_rfl)) ⟨hd.push he hne, hm, ?_, hM1, H.sel (.cons (by repeat constructor) (.cons (by repeat constructor) (.cons (by repeat constructor) (.cons (by repeat constructor) .nil))))⟩ (hd.lt he hne)
      dsimp only
      rw [List.map_append, List.map_singleton, ex_mk, ← dT_skip]; exact hes
  · have : o10 = none := by cases o10 <;> simp_all
    subst this
    rw [dT_perm hev hrv.ok ho10] at hes
    refine Goes.exit rfl (Goes.seq (Goes.region ?_))
    refine GoL.stepS rfl rfl (ldA tt24 rfl (H.own (by repeat constructor)) rfl (by rfl) ?_)
    refine GoL.step0 rfl (stA tt24 rfl rfl H (by repeat constructor) rfl rfl (by rfl) ?_); clear H; intro w H
    refine GoL.nil ?_
    obtain ⟨M3, hq, hle3, H⟩ := H.freezeX (i := 0) (by repeat constructor)
    exact Goes.ret (ret1 (v := .agg #[.map _]) rfl rfl (res_agg rfl tt24 (H.own (by repeat constructor)) rfl (by rfl)) H.nil ⟨rfl, polyOf hm (hes.mono hle3) hq⟩)

theorem prow_spec {M : RO} {v : Value} {f : Nat → Nat → Nat} {b : Int} (hv : PolyV M v f) (hbl : -9223372036854775808 ≤ b) (hbh : b ≤ 9223372036854775807) :
    Sp Tryz.prog 49 [v, .int .i64 b] M [] fun r M' L' => L' = [] ∧ ∃ a c vs, r = .slice a vs.length c ∧ vs.length ≤ c ∧ RoRow M' a vs ∧ (∀ j y, vs[j]? = some y → NatV M' (.agg #[y]) (rowF f b j)) ∧ IsRow (rowF f b) ((vs.length : Int) - 1) := by
  have hv' := hv
  obtain ⟨rv, ev, cv, rfl, hrv, hev⟩ := hv
  refine Sp.enter (n := 38) Tryz.func49 rfl Tryz.ntmps49 rfl ?_
  intro E hE H
  subst hE
  have nv := hev.length hrv.ok
  refine Goes.seq (Goes.region ?_)
  refine GoL.stepS rfl rfl (bxA rfl H ?_); clear H; intro b2 w hb2 H
  refine GoL.stepS rfl rfl (asL rfl ?_)
  refine GoL.nil ?_
  refine Goes.seq (Goes.region ?_)
  refine GoL.stepS rfl rfl (asI rfl ?_)
  refine GoL.nil ?_
  refine Goes.seq (Goes.seq (Goes.region ?_))
  first | refine GoL.stepS rfl rfl (r_fieldAddr0 fo24_0 rfl ?_) | refine GoL.stepS rfl rfl (r_fieldAddr fo24_0 rfl ?_)
  refine GoL.stepS rfl rfl (ldM tt22 rfl (H.own (by repeat constructor)) (by rfl) ?_)
  refine GoL.stepS rfl rfl (r_rangeM tt22 rfl H hrv ?_); clear H; intro b11 w hb11 H
  refine GoL.nil ?_
  refine Goes.cutT [5, 6, 12, 13, 14, 15, 16, 17, 18, 19, 20, 21, 22, 23] [(5, .int .i64 (-1))] (fun (x : Int) => [(5, .int .i64 x)]) (fun x w => IsRow (rowF f b) x ∧ Hp E E.M [pt b2 (.cells #[.map rv] 24)] w) ⟨rfl, trivial⟩ ?aft ?cut
  case cut =>
    intro f0 meet
    refine Goes.block ?_
    refine Goes.loopS [5, 6, 12, 13, 14, 15, 16, 17, 18, 19, 20, 21, 22, 23] (fun (s : List MapEntry × Int) => [(5, .int .i64 s.2)]) (fun s w => DoneOK ev s.1 ∧ RowL (s.1.map ex) b s.2 ∧ Hp E E.M [itm b11 rv cv s.1, pt b2 (.cells #[.map rv] 24)] w) (fun s => ev.length - s.1.length) ([], -1) ⟨rfl, trivial⟩ ⟨.nil _, .nil b, H⟩ ?_
    clear H
    rintro ⟨D, x⟩ f1 w ⟨hd, hx, H⟩ again
    dsimp only at hd hx H
    refine Goes.seq (Goes.region ?_)
    refine GoL.stepS rfl rfl (r_nextM rfl H .head hrv hd.sub hd.nodup ?_); clear H; intro o12 w ho12 H
    refine GoL.stepS rfl rfl (r_extract (v := .bool o12.isSome) rfl (by cases o12 <;> rfl) ?_)
    refine GoL.nil ?_
    refine Goes.seq ?_
    refine Goes.cond rfl (fun hs => ?_) (fun hs => ?_)
    · obtain ⟨e, rfl⟩ := Option.isSome_iff_exists.1 hs
      obtain ⟨he, hne⟩ := ho12
      obtain ⟨a, c, hkey, ha, hcb, h0, hval⟩ := hev.sound e he
      obtain ⟨ek, evv, eb⟩ := e
      dsimp only at hkey hval
      subst hkey
      refine Goes.skip (Goes.block (Goes.seq (Goes.region ?_)))
      refine GoL.stepS rfl rfl (r_entryM rfl H .head hrv he ?_)
      refine GoL.stepS rfl rfl (r_extract (v := .agg #[.int _ _, .int _ _]) rfl rfl ?_)
      refine GoL.stepS rfl rfl (r_alloc tt90 H ?_); clear H; intro b6 w hb6 H
      refine GoL.step0 rfl (stA tt90 rfl rfl H (by repeat constructor) rfl rfl (by rfl) ?_); clear H; intro w H
      refine GoL.nil ?_
      refine Goes.seq (Goes.region ?_)
      first | refine GoL.stepS rfl rfl (r_fieldAddr0 fo90_1 rfl ?_) | refine GoL.stepS rfl rfl (r_fieldAddr fo90_1 rfl ?_)
      refine GoL.stepS rfl rfl (ldI tt3 rfl (H.own (by repeat constructor)) (by rfl) ?_)
      refine GoL.stepS rfl rfl (mvI rfl ?_)
      refine GoL.stepS rfl rfl (r_eql rfl rfl ?_)
      refine GoL.nil ?_
      refine Goes.cond rfl (fun hd2 => ?_) (fun hd2 => ?_)
      · have hd' : (c : Int) = b := by simpa using hd2
        refine Goes.region ?_
        refine GoL.stepS rfl rfl (mvI rfl ?_)
        first | refine GoL.stepS rfl rfl (r_fieldAddr0 fo90_0 rfl ?_) | refine GoL.stepS rfl rfl (r_fieldAddr fo90_0 rfl ?_)
        refine GoL.stepS rfl rfl (ldI tt3 rfl (H.own (by repeat constructor)) (by rfl) ?_)
        refine GoL.stepS rfl rfl (r_max2 rfl rfl ?_)
        refine GoL.stepS rfl rfl (asI rfl ?_)
        refine GoL.nil ?_
        refine Goes.inBlock ?_
        refine again (D ++ [⟨key a c, evv, eb⟩], max x (a : Int)) _ _ ⟨rfl, trivial⟩ (.of_strip (by kernel_rfl)) ⟨hd.push he hne, ?_, H.sel (.cons (by repeat constructor) (.cons (by repeat constructor) .nil))⟩ (hd.lt he hne)
        dsimp only; rw [List.map_append, List.map_singleton, ex_mk]; exact hx.hit hd' ha
      · have hd' : ¬ (c : Int) = b := by simpa using hd2
        refine Goes.skip (Goes.inBlock ?_)
        refine again (D ++ [⟨key a c, evv, eb⟩], x) _ _ ⟨rfl, trivial⟩ (.of_strip (by kernel_rfl)) ⟨hd.push he hne, ?_, H.sel (.cons (by repeat constructor) (.cons (by repeat constructor) .nil))⟩ (hd.lt he hne)
        dsimp only; rw [List.map_append, List.map_singleton, ex_mk]; exact hx.miss hd'
    · have : o12 = none := by cases o12 <;> simp_all
      subst this
      refine Goes.exit rfl ?_
      refine meet x _ _ ⟨rfl, trivial⟩ (.of_strip2 (by kernel_rfl)) ⟨hx.row fun k => ?_, H.sel (.cons (by repeat constructor) .nil)⟩
      constructor
      · intro hk
        obtain ⟨e, he, rfl⟩ := List.mem_map.1 hk
        obtain ⟨a, b, hkk, _, _, h0, _⟩ := hev.sound e (hd.sub e he)
        have : ex e = (a, b) := by unfold ex; rw [hkk, kxy_key]
        rw [this]; exact h0
      · intro h0
        obtain ⟨e, he, hkk⟩ := hev.complete _ _ h0
        exact List.mem_map.2 ⟨e, ho12.mem_iff.2 he, by unfold ex; rw [hkk, kxy_key]⟩
  case aft =>
    clear H
    rintro x f2 w ⟨hx, H⟩
    have hx1 := hx.low
    have hx2 := hx.high
    refine Goes.seq (Goes.region ?_)
    refine GoL.stepS rfl rfl (asL rfl ?_)
    refine GoL.nil ?_
    refine Goes.seq (Goes.seq (Goes.region ?_))
    refine GoL.stepS rfl rfl (mvI rfl ?_)
    refine GoL.stepS rfl rfl (r_addR (x + 1) rfl rfl (by first | omega | (dsimp only; omega)) (by first | omega | (dsimp only; omega)) (by first | omega | (dsimp only; omega)) ?_)
    refine GoL.stepS rfl rfl (mvI rfl ?_)
    refine GoL.nil ?_
    refine Goes.block ?_
    have H := H.emp (sl_nil 49 1)
    refine Goes.loopS [7, 8, 26, 27, 28, 29, 30, 31, 32, 33, 34, 35, 36] (fun (s : List Value × Value × RO) => [(26, .int .i64 (s.1.length : Int)), (7, s.2.1)]) (fun s w => (s.1.length : Int) ≤ x + 1 ∧ E.M.le s.2.2 ∧ (∀ j y, s.1[j]? = some y → NatV s.2.2 (.agg #[y]) (rowF f b j)) ∧ Hp E s.2.2 [sl 49 1 s.2.1 s.1, pt b2 (.cells #[.map rv] 24)] w) (fun s => (x + 1).toNat - s.1.length) ([], .slice none 0 0, E.M) ⟨rfl, rfl, trivial⟩ ⟨by show (0 : Int) ≤ _; omega, RO.le.refl _, (fun j y h => by simp at h), H⟩ ?_
    clear H
    rintro ⟨vs, v, M1⟩ f3 w ⟨hl, hM1, hvs, H⟩ again
    dsimp only at hl hM1 hvs H
    refine Goes.seq (Goes.region ?_)
    refine GoL.stepS rfl rfl (r_lss rfl rfl ?_)
    refine GoL.nil ?_
    refine Goes.seq ?_
    refine Goes.cond rfl (fun hc => ?_) (fun hc => ?_)
    · have hlt : (vs.length : Int) < x + 1 := by simpa using hc
      refine Goes.skip (Goes.seq (Goes.block (Goes.seq (Goes.region ?_))))
      refine GoL.stepS rfl rfl (mvI rfl ?_)
      refine GoL.stepS rfl rfl (asI rfl ?_)
      refine GoL.nil ?_
      refine Goes.region ?_
      refine GoL.stepS rfl rfl (r_mv (v := v) rfl ?_)
      refine GoL.stepS rfl rfl (ldA tt24 rfl (H.own (by repeat constructor)) rfl (by rfl) ?_)
      refine GoL.stepS rfl rfl (mvI rfl ?_)
      refine GoL.stepS rfl rfl (mvI rfl ?_)
      refine GoL.stepS rfl rfl (r_call cc39 (coefficient_spec (hv'.mono hM1) (a := (vs.length : Int)) (by first | omega | (dsimp only; omega)) ⟨hbl, hbh⟩) H ?_); clear H; rintro v33 M33 L33 w hM33 ⟨rfl, rfl, h33⟩ H
      obtain ⟨a33, n33, c33, rfl⟩ := h33.shape
      have hrf : (if 0 ≤ (vs.length : Int) ∧ 0 ≤ b then f (vs.length : Int).toNat b.toNat else 0) = rowF f b vs.length := by
        unfold rowF
        rw [Int.toNat_natCast]
        by_cases h : 0 ≤ b
        · rw [if_pos ⟨Int.natCast_nonneg _, h⟩, if_pos h]
        · rw [if_neg (fun h' => h h'.2), if_neg h]
      rw [hrf] at h33
      refine GoL.stepS rfl rfl (r_bsl (cells := [.slice _ _ _]) tt81 tt49 rfl (by rfl) H ?_); clear H; intro b34 w hb34 H
      refine GoL.stepS rfl rfl (r_appendO (m := 1) tt81 tt49 tt81 (by intro k hk; cases hk) rfl rfl rfl H (.tail .head) .head rfl rfl rfl rfl (by first | omega | (dsimp only; omega)) ?_); clear H; intro v35 w H
      refine GoL.stepS rfl rfl (r_as (v := v35) rfl ?_)
      refine GoL.nil ?_
      refine Goes.inBlock (Goes.region ?_)
      first | refine GoL.stepS rfl rfl (r_addI rfl rfl (by first | omega | (dsimp only; omega)) (by first | omega | (dsimp only; omega)) ?_) | refine GoL.stepS rfl rfl (r_add rfl rfl ?_)
      refine GoL.stepS rfl rfl (mvI rfl ?_)
      refine GoL.nil ?_
      refine again (vs ++ [.slice a33 n33 c33], v35, _) _ _ ⟨by show Value.int .i64 _ = Value.int .i64 _; rw [List.length_append]; rfl, rfl, trivial⟩ (.of_strip (by kernel_rfl)) ⟨by dsimp only; rw [List.length_append]; simp; omega, hM1, ?_, H.right (L := [_])⟩ (by dsimp only; rw [List.length_append]; simp; omega)
      intro j y hj
      dsimp only at hj
      rw [List.getElem?_append] at hj
      split at hj
      · exact hvs j y hj
      · rename_i hjl
        have hj0 : j - vs.length = 0 := by
          rcases Nat.eq_zero_or_pos (j - vs.length) with h | h
          · exact h
          · rw [List.getElem?_eq_none (by simp; omega)] at hj; cases hj
        rw [hj0] at hj
        cases hj
        have : j = vs.length := by omega
        subst this; exact h33
    · have hlt : ¬ (vs.length : Int) < x + 1 := by simpa using hc
      refine Goes.exit rfl (Goes.seq (Goes.region ?_))
      refine GoL.stepS rfl rfl (r_mv (v := v) rfl ?_)
      refine GoL.stepS rfl rfl (r_as (v := v) rfl ?_)
      refine GoL.nil ?_
      obtain ⟨M', a, k, c, rfl, hll, hk, hr, hle, H3⟩ := H.freezeSl .head
      have hk2 : k = vs.length := by omega
      subst hk2
      refine Goes.ret (ret1 (v := .slice _ _ _) rfl rfl rfl H3.nil ⟨rfl, a, c, vs, rfl, hk, hr, fun j y hj => (hvs j y hj).mono hle, ?_⟩)
      have : (vs.length : Int) - 1 = x := by omega
      rw [this]; exact hx

end Go.Proofs.YtlcpdkckldlceaaGreatDoor
namespace Go.Proofs.YtlcpdkckldlceaaGreatDoor
open Go.Sx Go.Nat32 Go.Dec Go.PolyL
attribute [local irreducible] pt sl itc itm
set_option maxRecDepth 100000
set_option linter.unusedVariables false
set_option linter.unusedSimpArgs false

theorem _root_.Go.Proofs.YtlcpdkckldlceaaGreatDoor.PolyV.shape {M : RO} {v : Value} {f : Nat → Nat → Nat} (h : PolyV M v f) : ∃ r, v = .agg #[.map r] := let ⟨r, _, _, h1, _⟩ := h; ⟨r, h1⟩

theorem ringZero_spec {M : RO} {v : Array Value} : Sp Tryz.prog 42 [.agg v] M [] fun r M' L' => L' = [] ∧ PolyV M' r (fun _ _ => 0) := by
  refine Sp.enter (n := 4) Tryz.func42 rfl Tryz.ntmps42 rfl ?_
  intro E hE H
  subst hE
  refine Goes.seq (Goes.region ?_)
  refine GoL.stepS rfl rfl (bxA rfl H ?_); clear H; intro b1 w hb1 H
  refine GoL.stepS rfl rfl (r_alloc tt24 H ?_); clear H; intro b2 w hb2 H
  refine GoL.nil ?_
  refine Goes.seq (Goes.region ?_)
  refine GoL.stepS rfl rfl (r_call cc22 (zero_spec) H ?_); clear H; rintro v3 M3 L3 w hM3 ⟨rfl, rfl, rfl⟩ H
  refine GoL.step0 rfl (stA tt24 rfl rfl H (by repeat constructor) rfl rfl (by rfl) ?_); clear H; intro w H
  refine GoL.nil ?_
  exact Goes.ret (ret1 (v := .agg #[.map _]) rfl rfl (res_agg rfl tt24 (H.own (by repeat constructor)) rfl (by rfl)) H.nil ⟨rfl, .zero _⟩)

theorem ringOne_spec {M : RO} {v : Array Value} : Sp Tryz.prog 43 [.agg v] M [] fun r M' L' => L' = [] ∧ PolyV M' r (monoF 1 0 0) := by
  refine Sp.enter (n := 4) Tryz.func43 rfl Tryz.ntmps43 rfl ?_
  intro E hE H
  subst hE
  refine Goes.seq (Goes.region ?_)
  refine GoL.stepS rfl rfl (bxA rfl H ?_); clear H; intro b1 w hb1 H
  refine GoL.stepS rfl rfl (r_alloc tt24 H ?_); clear H; intro b2 w hb2 H
  refine GoL.nil ?_
  refine Goes.seq (Goes.region ?_)
  refine GoL.stepS rfl rfl (r_call cc23 (one_spec) H ?_); clear H; rintro v3 M3 L3 w hM3 ⟨rfl, h3⟩ H
  obtain ⟨q3, rfl⟩ := h3.shape
  refine GoL.step0 rfl (stA tt24 rfl rfl H (by repeat constructor) rfl rfl (by rfl) ?_); clear H; intro w H
  refine GoL.nil ?_
  exact Goes.ret (ret1 (v := .agg #[.map _]) rfl rfl (res_agg rfl tt24 (H.own (by repeat constructor)) rfl (by rfl)) H.nil ⟨rfl, h3⟩)

theorem ringAdd_spec {M : RO} {z : Array Value} {v u : Value} {f g : Nat → Nat → Nat} {k : Nat} (hv : PolyV M v f) (hu : PolyV M u g) (lf : ∀ a b, lim k (f a b)) (lg : ∀ a b, lim k (g a b)) (hk : k < 1000000) :
    Sp Tryz.prog 44 [.agg z, v, u] M [] fun r M' L' => L' = [] ∧ PolyV M' r fun a b => f a b + g a b := by
  obtain ⟨qv, rfl⟩ := hv.shape
  obtain ⟨qu, rfl⟩ := hu.shape
  refine Sp.enter (n := 10) Tryz.func44 rfl Tryz.ntmps44 rfl ?_
  intro E hE H
  subst hE
  refine Goes.seq (Goes.region ?_)
  refine GoL.stepS rfl rfl (bxA rfl H ?_); clear H; intro b3 w hb3 H
  refine GoL.stepS rfl rfl (bxA rfl H ?_); clear H; intro b4 w hb4 H
  refine GoL.stepS rfl rfl (bxA rfl H ?_); clear H; intro b5 w hb5 H
  refine GoL.stepS rfl rfl (r_alloc tt24 H ?_); clear H; intro b6 w hb6 H
  refine GoL.nil ?_
  refine Goes.seq (Goes.region ?_)
  refine GoL.stepS rfl rfl (ldA tt24 rfl (H.own (by repeat constructor)) rfl (by rfl) ?_)
  refine GoL.stepS rfl rfl (ldA tt24 rfl (H.own (by repeat constructor)) rfl (by rfl) ?_)
  refine GoL.stepS rfl rfl (r_call cc18 (padd_spec hv hu lf lg hk) H ?_); clear H; rintro v9 M9 L9 w hM9 ⟨rfl, h9⟩ H
  obtain ⟨q9, rfl⟩ := h9.shape
  refine GoL.step0 rfl (stA tt24 rfl rfl H (by repeat constructor) rfl rfl (by rfl) ?_); clear H; intro w H
  refine GoL.nil ?_
  exact Goes.ret (ret1 (v := .agg #[.map _]) rfl rfl (res_agg rfl tt24 (H.own (by repeat constructor)) rfl (by rfl)) H.nil ⟨rfl, h9⟩)

theorem ringMul_spec {M : RO} {z : Array Value} {v u : Value} {f g : Nat → Nat → Nat} {k : Nat} (hv : PolyV M v f) (hu : PolyV M u g) (lf : ∀ a b, lim k (f a b)) (lg : ∀ a b, lim k (g a b)) (hk : k ≤ 400000) :
    Sp Tryz.prog 45 [.agg z, v, u] M [] fun r M' L' => L' = [] ∧ PolyV M' r (conv f g) := by
  obtain ⟨qv, rfl⟩ := hv.shape
  obtain ⟨qu, rfl⟩ := hu.shape
  refine Sp.enter (n := 10) Tryz.func45 rfl Tryz.ntmps45 rfl ?_
  intro E hE H
  subst hE
  refine Goes.seq (Goes.region ?_)
  refine GoL.stepS rfl rfl (bxA rfl H ?_); clear H; intro b3 w hb3 H
  refine GoL.stepS rfl rfl (bxA rfl H ?_); clear H; intro b4 w hb4 H
  refine GoL.stepS rfl rfl (bxA rfl H ?_); clear H; intro b5 w hb5 H
  refine GoL.stepS rfl rfl (r_alloc tt24 H ?_); clear H; intro b6 w hb6 H
  refine GoL.nil ?_
  refine Goes.seq (Goes.region ?_)
  refine GoL.stepS rfl rfl (ldA tt24 rfl (H.own (by repeat constructor)) rfl (by rfl) ?_)
  refine GoL.stepS rfl rfl (ldA tt24 rfl (H.own (by repeat constructor)) rfl (by rfl) ?_)
  refine GoL.stepS rfl rfl (r_call cc20 (pmul_spec hv hu lf lg hk) H ?_); clear H; rintro v9 M9 L9 w hM9 ⟨rfl, h9⟩ H
  obtain ⟨q9, rfl⟩ := h9.shape
  refine GoL.step0 rfl (stA tt24 rfl rfl H (by repeat constructor) rfl rfl (by rfl) ?_); clear H; intro w H
  refine GoL.nil ?_
  exact Goes.ret (ret1 (v := .agg #[.map _]) rfl rfl (res_agg rfl tt24 (H.own (by repeat constructor)) rfl (by rfl)) H.nil ⟨rfl, h9⟩)

theorem ringSame_spec {M : RO} {z : Array Value} {v u : Value} {f g : Nat → Nat → Nat} (hv : PolyV M v f) (hu : PolyV M u g) :
    Sp Tryz.prog 46 [.agg z, v, u] M [] fun r M' L' => L' = [] ∧ M' = M ∧ ∃ t, r = .bool t ∧ (t = true ↔ f = g) := by
  obtain ⟨qv, rfl⟩ := hv.shape
  obtain ⟨qu, rfl⟩ := hu.shape
  refine Sp.enter (n := 10) Tryz.func46 rfl Tryz.ntmps46 rfl ?_
  intro E hE H
  subst hE
  refine Goes.seq (Goes.region ?_)
  refine GoL.stepS rfl rfl (bxA rfl H ?_); clear H; intro b3 w hb3 H
  refine GoL.stepS rfl rfl (bxA rfl H ?_); clear H; intro b4 w hb4 H
  refine GoL.stepS rfl rfl (bxA rfl H ?_); clear H; intro b5 w hb5 H
  refine GoL.stepS rfl rfl (asB rfl ?_)
  refine GoL.nil ?_
  refine Goes.seq (Goes.region ?_)
  refine GoL.stepS rfl rfl (ldA tt24 rfl (H.own (by repeat constructor)) rfl (by rfl) ?_)
  refine GoL.stepS rfl rfl (ldA tt24 rfl (H.own (by repeat constructor)) rfl (by rfl) ?_)
  refine GoL.stepS rfl rfl (r_call cc24 (pequal_spec hv hu) H ?_); clear H; rintro v9 M9 L9 w hM9 ⟨rfl, rfl, t9, rfl, h9⟩ H
  refine GoL.stepS rfl rfl (asB rfl ?_)
  refine GoL.nil ?_
  exact Goes.ret (ret1 (v := .bool _) rfl rfl rfl H.nil ⟨rfl, rfl, t9, rfl, h9⟩)

end Go.Proofs.YtlcpdkckldlceaaGreatDoor
namespace Go.Proofs.YtlcpdkckldlceaaGreatDoor
open Go.Sx Go.Nat32 Go.Dec Go.PolyL Go.Lib Go.Sort
attribute [local irreducible] pt sl itc itm
set_option maxRecDepth 100000
set_option linter.unusedVariables false
set_option linter.unusedSimpArgs false

theorem small_spec10 {M : RO} {i : Nat} (hi : i < 100) : Sp Tryz.prog 128 [.int .i64 (i : Int)] M [] fun r M' L' => L' = [] ∧ M' = M ∧ r = st (decDigits i) := by
  intro E hE H
  refine (Any.internal_strconv_small { Tryz.laysM171 with } i hi E.w).mono ?_
  rintro e w' ⟨rfl, rfl⟩
  exact ⟨_, M, [], rfl, H, rfl, rfl, rfl⟩

theorem numDigits_spec {M : RO} (hT : TabM M) {u : Nat} (h1 : 1 ≤ u) (h2 : u < 18446744073709551616) : Sp Tryz.prog 129 [.int .u64 (u : Int)] M [] fun r M' L' => L' = [] ∧ M' = M ∧ r = .int .i64 (nDigits u : Int) := by
  intro E hE H
  refine (Any.internal_strconv_numDigits { Tryz.laysM171 with } u h1 h2 E.w (hT E.w fun b o hb => H.ro hb)).mono ?_
  rintro e w' ⟨rfl, rfl⟩
  exact ⟨_, M, [], rfl, H, rfl, rfl, rfl⟩

attribute [local semireducible] pt in
theorem fmt10_spec {M : RO} {b u cap n : Nat} {c : Array Value} {e : TypeId} (h1 : 1 ≤ u) (h2 : u < 18446744073709551616) (hn : n = nDigits u) (hc : ∀ j, j < n → c[j]? = some (bv 0)) (hsz : n ≤ c.size) :
    Sp Tryz.prog 130 [.slice (some ⟨b, 0, none⟩) n cap, .int .u64 (u : Int)] M [pt b (.cells c e (0, 0))] fun _ M' L' => M' = M ∧ ∃ c', L' = [pt b (.cells c' e (0, 0))] ∧ c'.size = c.size ∧ (c'.extract 0 (0 + n)).toList = (decDigits u).map bv := by
  intro E hE H
  subst hn
  obtain ⟨A, R, hA, h0, hset, _⟩ := H.focus .head
  have hA' : A = [(b, .cells c e (0, 0))] := hA
  subst hA'
  have hb : E.w.heap[b]? = some (.cells c e (0, 0)) := h0.own (b, _) (by simp)
  have hnd : nDigits u ≤ 20 := by have := numDigits_eq u h1 h2; split at this <;> omega
  have hH : Holds (fun (b : UInt8) => Value.int .u8 (b.toNat : Int)) E.w b 0 (Array.replicate (nDigits u) (0 : UInt8)) := by
    intro j hj
    have hj' : j < nDigits u := by simpa using hj
    constructor
    · have h1 : E.w.cell? ⟨b, 0 + j, none⟩ = c[j]? := by simp [World.cell?, hb]
      rw [h1, hc j hj', getElem!_pos _ j hj]; simp [bv]
    · simp [World.frozen?, hb]
  have hcon := Any.internal_strconv_formatBase10 { Tryz.laysM171 with } b 0 cap u (Array.replicate (nDigits u) 0) E.w hH (by rw [Array.size_replicate]; exact lt_pow_nDigits u) h2 (by rw [Array.size_replicate]; omega)
  rw [Array.size_replicate] at hcon
  refine hcon.mono ?_
  rintro e' w' ⟨rfl, k, v', dk, rfl, hF⟩
  have hdk := hF.size
  have h1' : Hp0 E M ((b, .cells (putCells (fun (b : UInt8) => Value.int .u8 (b.toNat : Int)) 0 dk c) e (0, 0)) :: R) (putRow (fun (b : UInt8) => Value.int .u8 (b.toNat : Int)) E.w b 0 dk) := by
    refine h0.turn rfl rfl rfl rfl (by simp [putRow, mapBlock]) ?_ fun k hk => ?_
    · show (E.w.heap.modify b (onCells (putCells _ 0 dk)))[b]? = _
      rw [Array.getElem?_modify, if_pos rfl, hb]; rfl
    · show (E.w.heap.modify b (onCells (putCells _ 0 dk)))[k]? = E.w.heap[k]?
      rw [Array.getElem?_modify, if_neg (Ne.symm hk)]
  have h2' := hset E M _ (pt b (.cells (putCells (fun (b : UInt8) => Value.int .u8 (b.toNat : Int)) 0 dk c) e (0, 0))) [(b, .cells (putCells (fun (b : UInt8) => Value.int .u8 (b.toNat : Int)) 0 dk c) e (0, 0))] rfl h1'
  refine ⟨_, M, _, rfl, h2'.draw (E.w.drawn + k) (Nat.le_add_right _ _), rfl, _, rfl, by simp [putCells], ?_⟩
  have hll := decDigits_length u
  apply List.ext_getElem?
  intro j
  rw [Array.getElem?_toList, Array.getElem?_extract, List.getElem?_map]
  simp only [Nat.zero_add, Nat.sub_zero, Nat.add_zero]
  by_cases hj : j < nDigits u
  · have hsz2 : (putCells (fun (b : UInt8) => Value.int .u8 (b.toNat : Int)) 0 dk c).size = c.size := by simp [putCells]
    rw [if_pos (by omega), List.getElem?_eq_getElem (by omega), row_is_numeral hF j (by omega)]
    unfold putCells
    rw [Array.getElem?_mapIdx, Array.getElem?_eq_getElem (show j < c.size by omega)]
    simp only [Option.map_some, Nat.zero_le, true_and, Nat.zero_add, Nat.sub_zero]
    rw [if_pos (by omega)]; rfl
  · rw [if_neg (by omega), List.getElem?_eq_none (by omega)]; rfl

theorem formatUint_in {M : RO} (hT : TabM M) {u : Nat} (h2 : u < 18446744073709551616) : Sp Tryz.prog 103 [.int .u64 (u : Int), .int .i64 10] M [] fun r M' L' => L' = [] ∧ r = st (decDigits u) := by
  refine Sp.enter (n := 32) Tryz.func103 rfl Tryz.ntmps103 rfl ?_
  intro E hE H
  subst hE
  refine Goes.seq (Goes.region ?_)
  refine GoL.stepS rfl rfl (asS rfl ?_)
  refine GoL.nil ?_
  refine Goes.seq (Goes.seq (Goes.region ?_))
  refine GoL.stepS rfl rfl (mvI rfl ?_)
  refine GoL.stepS rfl rfl (r_eql rfl rfl ?_)
  refine GoL.nil ?_
  refine Goes.condT rfl (rfl) ?_
  refine Goes.seq (Goes.seq (Goes.region ?_))
  refine GoL.stepS rfl rfl (mvI rfl ?_)
  refine GoL.stepS rfl rfl (r_lss rfl rfl ?_)
  refine GoL.nil ?_
  refine Goes.cond rfl (fun hs => ?_) (fun hs => ?_)
  · have hs' : u < 100 := by have : (u : Int) < 100 := by simpa using hs
                             omega
    refine Goes.seq (Goes.region ?_)
    refine GoL.stepS rfl rfl (mvI rfl ?_)
    refine GoL.stepS rfl rfl (r_cv_i64 tt51 tt3 rfl (by first | omega | (dsimp only; omega)) (by first | omega | (dsimp only; omega)) ?_)
    refine GoL.stepS rfl rfl (r_call cc128 (small_spec10 hs') H ?_); clear H; rintro v15 M15 L15 w hM15 ⟨rfl, rfl, rfl⟩ H
    refine GoL.stepS rfl rfl (asS rfl ?_)
    refine GoL.nil ?_
    exact Goes.ret (ret1 (v := .string _) rfl rfl rfl H.nil ⟨rfl, rfl⟩)
  · have hs' : ¬ u < 100 := by have : ¬ (u : Int) < 100 := by simpa using hs
                               omega
    have hnd : nDigits u ≤ 20 := by have := numDigits_eq u (by omega) h2; split at this <;> omega
    refine Goes.skip (Goes.seq (Goes.region ?_))
    refine GoL.stepS rfl rfl (r_alloc tt174 H ?_); clear H; intro b5 w hb5 H
    refine GoL.nil ?_
    refine Goes.seq (Goes.region ?_)
    refine GoL.stepS rfl rfl (mvI rfl ?_)
    refine GoL.stepS rfl rfl (r_call cc129 (numDigits_spec hT (u := u) (by first | omega | (dsimp only; omega)) h2) H ?_); clear H; rintro v17 M17 L17 w hM17 ⟨rfl, rfl, rfl⟩ H
    refine GoL.stepS rfl rfl (asI rfl ?_)
    refine GoL.nil ?_
    refine Goes.seq (Goes.region ?_)
    refine GoL.stepS rfl rfl (mvI rfl ?_)
    refine GoL.stepS rfl rfl (r_sliceAr tt174 tt5 rfl rfl (by first | omega | (dsimp only; omega)) ?_)
    refine GoL.stepS rfl rfl (mvI rfl ?_)
    refine GoL.stepS rfl rfl (r_call (Lr := []) cc130 (fmt10_spec (c := (Array.replicate 24 (bv 0))) (e := 174) (by first | omega | (dsimp only; omega)) h2 rfl (fun j hj => by rw [Array.getElem?_replicate, if_pos (by first | omega | (dsimp only; omega))]) (by rw [Array.size_replicate]; omega)) H ?_); clear H; rintro v21 M21 L21 w hM21 ⟨rfl, c21, rfl, hs21, hd21⟩ H
    refine GoL.nil ?_
    refine Goes.seq (Goes.region ?_)
    refine GoL.stepS rfl rfl (mvI rfl ?_)
    refine GoL.stepS rfl rfl (r_sliceAr tt174 tt5 rfl rfl (by first | omega | (dsimp only; omega)) ?_)
    refine GoL.stepS rfl rfl (r_bytesStr tt124 tt5 tt9 rfl (H.own .head) (decDigits_length u) hd21 (by rw [hs21, Array.size_replicate]; omega) ?_)
    refine GoL.stepS rfl rfl (asS rfl ?_)
    refine GoL.nil ?_
    exact Goes.ret (ret1 (v := .string _) rfl rfl rfl H.nil ⟨rfl, rfl⟩)

theorem formatUint_spec {M : RO} (hT : TabM M) {u : Nat} (h2 : u < 18446744073709551616) : Sp Tryz.prog 76 [.int .u64 (u : Int), .int .i64 10] M [] fun r M' L' => L' = [] ∧ r = st (decDigits u) := by
  refine Sp.enter (n := 8) Tryz.func76 rfl Tryz.ntmps76 rfl ?_
  intro E hE H
  subst hE
  refine Goes.seq (Goes.region ?_)
  refine GoL.stepS rfl rfl (asS rfl ?_)
  refine GoL.nil ?_
  refine Goes.seq (Goes.region ?_)
  refine GoL.stepS rfl rfl (mvI rfl ?_)
  refine GoL.stepS rfl rfl (mvI rfl ?_)
  refine GoL.stepS rfl rfl (r_call cc103 (formatUint_in hT h2) H ?_); clear H; rintro v7 M7 L7 w hM7 ⟨rfl, rfl⟩ H
  refine GoL.stepS rfl rfl (asS rfl ?_)
  refine GoL.nil ?_
  exact Goes.ret (ret1 (v := .string _) rfl rfl rfl H.nil ⟨rfl, rfl⟩)

end Go.Proofs.YtlcpdkckldlceaaGreatDoor
namespace Go.Proofs.YtlcpdkckldlceaaGreatDoor
open Go.Sx Go.Nat32 Go.Dec Go.PolyL Go.Lib Go.Sort
attribute [local irreducible] pt sl itc itm
set_option maxRecDepth 100000
set_option linter.unusedVariables false
set_option linter.unusedSimpArgs false

theorem join_flat (l : List (List UInt8)) : join l [] = l.flatten := by
  cases l with
  | nil => rfl
  | cons x r => rw [join_cons, joinTail]; simp

/-- A group of nine digits; the first has no zeros ahead. -/
def grp (y : Nat) : List UInt8 := if y / 1000000000 = 0 then decDigits (y % 1000000000) else padk 9 (y % 1000000000)
theorem grp_eq {y : Nat} (hy : y ≠ 0) : decDigits y = (if y / 1000000000 = 0 then [] else decDigits (y / 1000000000)) ++ grp y := by
  unfold grp
  by_cases h : y / 1000000000 = 0
  · rw [if_pos h, if_pos h, List.nil_append, Nat.mod_eq_of_lt (by omega)]
  · rw [if_neg h, if_neg h, ← decDigits_pad h 9 (y % 1000000000) (Nat.mod_lt _ (by decide))]
    congr 1
    show y = y / 1000000000 * 1000000000 + y % 1000000000
    omega
theorem padk_length (k r : Nat) : (padk k r).length = k := by
  induction k generalizing r with
  | zero => rfl
  | succ k ih => rw [padk, List.length_append, ih]; rfl
theorem grp_len (y : Nat) : (grp y).length ≤ 9 := by
  unfold grp
  split
  · exact decDigits_length_le (by decide) (Nat.mod_lt _ (by decide))
  · rw [padk_length]; exact Nat.le_refl _
theorem flatten_len {l : List (List UInt8)} {m : Nat} (h : ∀ x ∈ l, x.length ≤ m) : l.flatten.length ≤ l.length * m := by
  induction l with
  | nil => simp
  | cons x l ih =>
    rw [List.flatten_cons, List.length_append, List.length_cons, Nat.add_mul]
    have h1 := ih fun y hy => h y (by simp [hy])
    have h2 := h x (by simp)
    omega

theorem natString_spec {M : RO} (hT : TabM M) {v : Value} {x k : Nat} (hv : NatV M v x) (lx : lim k x) (hk : k ≤ 1000000) :
    Sp0 Tryz.prog 27 [v] M [] fun r _ L' => L' = [] ∧ r = st (decDigits x) := by
  obtain ⟨va, vn, vc, rfl⟩ := hv.shape
  have hx10 : x < 10 ^ (10 * k) := by
    have h1 : (4294967296 : Nat) ^ k ≤ (10 ^ 10) ^ k := Nat.pow_le_pow_left (by decide) k
    rw [← Nat.pow_mul] at h1
    exact Nat.lt_of_lt_of_le lx h1
  refine Sp0.enter (n := 37) Tryz.func27 rfl Tryz.ntmps27 rfl ?_
  intro E hdr hE H
  subst hE
  refine Goes.seq (Goes.region ?_)
  refine GoL.stepS rfl rfl (bxA rfl H ?_); clear H; intro b1 w hb1 H
  refine GoL.stepS rfl rfl (asS rfl ?_)
  refine GoL.nil ?_
  refine Goes.seq (Goes.seq (Goes.region ?_))
  refine GoL.stepS rfl rfl (ldA tt49 rfl (H.own (by repeat constructor)) rfl (by rfl) ?_)
  refine GoL.stepS rfl rfl (r_call cc74 (isZeroN hv) H ?_); clear H; rintro v8 M8 L8 w hM8 ⟨rfl, rfl, rfl⟩ H
  refine GoL.nil ?_
  refine Goes.cond rfl (fun hz => ?_) (fun hz => ?_)
  · have h0 : x = 0 := by simpa using hz
    subst h0
    refine Goes.seq (Goes.region ?_)
    refine GoL.stepS rfl rfl (asS rfl ?_)
    refine GoL.nil ?_
    refine Goes.ret (ret1 (v := .string _) rfl rfl rfl H.nil ⟨rfl, ?_⟩)
    rw [decDigits_small (by decide)]; rfl
  · have h0 : x ≠ 0 := by simpa using hz
    refine Goes.skip (Goes.seq (Goes.region ?_))
    refine GoL.stepS rfl rfl (asL rfl ?_)
    refine GoL.nil ?_
    refine Goes.seq (Goes.block ?_)
    have H := H.emp (sl_nil 9 1)
    refine Goes.loopS (3 :: 4 :: 5 :: 6 :: 9 :: 10 :: 11 :: 12 :: 13 :: 14 :: 15 :: 16 :: 17 :: 18 :: 19 :: 20 :: 21 :: 22 :: 23 :: 24 :: 25 :: 26 :: 27 :: 28 :: 29 :: 30 :: 31 :: 32 :: []) (fun (s : Nat × (Option Addr × Nat × Nat) × List (List UInt8) × Value × RO × List HProp) => [(3, s.2.2.2.1)]) (fun s w => E.M.le s.2.2.2.2.1 ∧ NatV s.2.2.2.2.1 (.agg #[.slice s.2.1.1 s.2.1.2.1 s.2.1.2.2]) s.1 ∧ s.1 ≤ x ∧ decDigits x = (if s.1 = 0 then [] else decDigits s.1) ++ (s.2.2.1.reverse).flatten ∧ s.2.2.1.length + (dgs s.1).length ≤ (dgs x).length ∧ (∀ g ∈ s.2.2.1, g.length ≤ 9) ∧ Hp E s.2.2.2.2.1 (sl 9 1 s.2.2.2.1 (s.2.2.1.map str) :: pt b1 (.cells #[.slice s.2.1.1 s.2.1.2.1 s.2.1.2.2] 49) :: s.2.2.2.2.2) w) (fun s => s.1) (x, (va, vn, vc), [], .slice none 0 0, E.M, _) ⟨rfl, trivial⟩ ⟨RO.le.refl _, hv, Nat.le_refl _, by simp [h0], by simp, (fun g hg => by cases hg), H⟩ ?_
    clear H
    rintro ⟨y, ⟨ya, yn, yc⟩, gs, sv, M1, L1⟩ f1 w ⟨hM1, hy, hyx, hg, hgl, hg9, H⟩ again
    dsimp only at hM1 hy hyx hg hgl hg9 H
    have hdx := dgs_len hx10
    refine Goes.seq (Goes.seq (Goes.region ?_))
    refine GoL.stepS rfl rfl (ldA tt49 rfl (H.own (by repeat constructor)) rfl (by rfl) ?_)
    refine GoL.stepS rfl rfl (r_call cc74 (isZeroN hy) H ?_); clear H; rintro v10 M10 L10 w hM10 ⟨rfl, rfl, rfl⟩ H
    refine GoL.stepS rfl rfl (r_not rfl ?_)
    refine GoL.nil ?_
    refine Goes.cond rfl (fun hn => ?_) (fun hn => ?_)
    · have hy0 : y ≠ 0 := by simpa using hn
      have hr1 : y % 1000000000 < 1000000000 := Nat.mod_lt _ (by decide)
      refine Goes.skip (Goes.block (Goes.seq (Goes.region ?_)))
      refine GoL.stepS rfl rfl (ldA tt49 rfl (H.own (by repeat constructor)) rfl (by rfl) ?_)
      refine GoL.stepS rfl rfl (r_call cc75 (shortN hy (k := 1000000000) (by first | omega | (dsimp only; omega)) (by first | omega | (dsimp only; omega))) H ?_); clear H; rintro v14 M14 L14 w hM14 ⟨rfl, qa, qn, qc, rfl, hq⟩ H
      refine GoL.stepS rfl rfl (mvT rfl ?_)
      refine GoL.stepS rfl rfl (r_extract rfl rfl ?_)
      refine GoL.stepS rfl rfl (r_extract rfl rfl ?_)
      refine GoL.stepS rfl rfl (r_alloc tt49 H ?_); clear H; intro b4 w hb4 H
      refine GoL.step0 rfl (stA tt49 rfl rfl H (by repeat constructor) rfl rfl (by rfl) ?_); clear H; intro w H
      refine GoL.stepS rfl rfl (asI rfl ?_)
      refine GoL.nil ?_
      refine Goes.seq (Goes.region ?_)
      refine GoL.stepS rfl rfl (mvI rfl ?_)
      refine GoL.stepS rfl rfl (r_call cc76 (formatUint_spec (hT.mono (hM1.trans hM14)) (u := y % 1000000000) (by first | omega | (dsimp only; omega))) H ?_); clear H; rintro v18 M18 L18 w hM18 ⟨rfl, rfl⟩ H
      refine GoL.stepS rfl rfl (asS rfl ?_)
      refine GoL.nil ?_
      refine Goes.seq (Goes.seq (Goes.region ?_))
      refine GoL.stepS rfl rfl (ldA tt49 rfl (H.own (by repeat constructor)) rfl (by rfl) ?_)
      refine GoL.stepS rfl rfl (r_call cc74 (isZeroN (hq.mono hM18)) H ?_); clear H; rintro v20 M20 L20 w hM20 ⟨rfl, rfl, rfl⟩ H
      refine GoL.stepS rfl rfl (r_not rfl ?_)
      refine GoL.nil ?_
      refine Goes.cutT [6, 22, 23, 24, 25, 26, 27] [(6, st (decDigits (y % 1000000000)))] (fun (_ : Unit) => [(6, st (grp y))]) (fun _ w => ∃ M', M20.le M' ∧ Hp E M' (pt b4 (.cells #[.slice qa qn qc] 49) :: sl 9 1 sv (gs.map str) :: pt b1 (.cells #[.slice ya yn yc] 49) :: L1) w) ⟨rfl, trivial⟩ ?aft ?cut
      case cut =>
        intro f2 meet
        refine Goes.cond rfl (fun hqz => ?_) (fun hqz => ?_)
        · have hq0 : y / 1000000000 ≠ 0 := by simpa using hqz
          have hdl := decDigits_length_le (k := 9) (by decide) (show y % 1000000000 < 10 ^ 9 from hr1)
          refine Goes.region ?_
          refine GoL.stepS rfl rfl (mvS rfl ?_)
          refine GoL.stepS rfl rfl (r_lenS tt9 rfl ?_)
          refine GoL.stepS rfl rfl (r_subR ((9 - (decDigits (y % 1000000000)).length : Nat) : Int) rfl rfl (by first | omega | (dsimp only; omega)) (by first | omega | (dsimp only; omega)) (by first | omega | (dsimp only; omega)) ?_)
          refine GoL.stepS rfl rfl (r_call0 hdr cc77 (repeat_spec (s := [48]) (c := 9 - (decDigits (y % 1000000000)).length) (by first | omega | (dsimp only; omega)) (by simp; omega)) H ?_); clear H; rintro v25 M25 L25 w hM25 ⟨rfl, rfl, rfl⟩ H
          refine GoL.stepS rfl rfl (mvS rfl ?_)
          refine GoL.stepS rfl rfl (r_concat (a := repeatL [48] (9 - (decDigits (y % 1000000000)).length)) (b := decDigits (y % 1000000000)) rfl rfl (by rw [repeatL_length]; simp; omega) ?_)
          refine GoL.stepS rfl rfl (asS rfl ?_)
          refine GoL.nil ?_
          refine meet () _ _ ⟨?_, trivial⟩ (.of_strip (by kernel_rfl)) ⟨_, hM25, H⟩
          have : grp y = repeatL [48] (9 - (decDigits (y % 1000000000)).length) ++ decDigits (y % 1000000000) := by
            unfold grp
            rw [if_neg hq0, padk_eq 9 _ (by decide) hr1, Go.Dec.repeatL_replicate]
          rw [this]; rfl
        · have hq0 : y / 1000000000 = 0 := by simpa using hqz
          refine Goes.skip ?_
          refine meet () _ _ ⟨?_, trivial⟩ (.of_strip (by kernel_rfl)) ⟨_, RO.le.refl _, H⟩
          have : grp y = decDigits (y % 1000000000) := by unfold grp; rw [if_pos hq0]
          rw [this]; rfl
      case aft =>
        clear H
        rintro _ f3 w ⟨M4, hM4, H⟩
        have hdg := dgs_mono (Nat.div_le_self y 1000000000)
        have hd10 : (dgs (y / 1000000000)).length + 1 ≤ (dgs y).length := by
          rw [dgs_pos hy0, List.length_cons]
          have := dgs_mono (show y / 1000000000 ≤ y / 10 by omega)
          omega
        refine Goes.seq (Goes.region ?_)
        refine GoL.stepS rfl rfl (r_mv (v := sv) rfl ?_)
        refine GoL.stepS rfl rfl (mvS rfl ?_)
        refine GoL.stepS rfl rfl (r_bsl (cells := [.string _]) tt86 tt9 rfl (by rfl) H ?_); clear H; intro b30 w hb30 H
        refine GoL.stepS rfl rfl (r_appendO (m := 1) tt86 tt9 tt86 (by intro k hk; cases hk) rfl rfl rfl H (.tail (.tail .head)) .head rfl rfl rfl rfl (by rw [List.length_map]; omega) ?_); clear H; intro v31 w H
        refine GoL.stepS rfl rfl (r_as (v := v31) rfl ?_)
        refine GoL.nil ?_
        refine Goes.region ?_
        refine GoL.stepS rfl rfl (ldA tt49 rfl (H.own (by repeat constructor)) rfl (by rfl) ?_)
        refine GoL.step0 rfl (stA tt49 rfl rfl H (by repeat constructor) rfl rfl (by rfl) ?_); clear H; intro w H
        refine GoL.nil ?_
        refine Goes.inBlock ?_
        have hle4 : E.M.le M4 := fun b o h => hM4 _ _ (hM18 _ _ (hM14 _ _ (hM1 _ _ h)))
        have hq4 : NatV M4 (.agg #[.slice qa qn qc]) (y / 1000000000) := (hq.mono hM18).mono hM4
        refine again (y / 1000000000, (qa, qn, qc), gs ++ [grp y], v31, M4, []) _ _ ⟨rfl, trivial⟩ (.of_strip (by kernel_rfl)) ⟨hle4, hq4, by dsimp only; omega, ?_, by dsimp only; rw [List.length_append, List.length_singleton]; omega, ?_, ?_⟩ (by dsimp only; omega)
        · dsimp only
          rw [List.reverse_append, List.reverse_singleton, List.singleton_append, List.flatten_cons, ← List.append_assoc, hg, if_neg hy0, grp_eq hy0]
        · intro g hg'
          rcases List.mem_append.1 hg' with hg' | hg'
          · exact hg9 g hg'
          · obtain rfl := List.mem_singleton.1 hg'; exact grp_len y
        · dsimp only
          rw [List.map_append, List.map_singleton]
          exact H.sel (.cons (by repeat constructor) (.cons (by repeat constructor) .nil))
    · have hy0 : y = 0 := by simpa using hn
      subst hy0
      rw [if_pos rfl, List.nil_append] at hg
      refine Goes.exit rfl (Goes.seq (Goes.region ?_))
      refine GoL.stepS rfl rfl (r_mv (v := sv) rfl ?_)
      refine GoL.stepS rfl rfl (r_call cc78 (reverse_spec (xs := gs) (by first | omega | (dsimp only; omega))) H ?_); clear H; rintro v34 M34 L34 w hM34 ⟨rfl, rfl⟩ H
      refine GoL.nil ?_
      refine Goes.seq (Goes.region ?_)
      obtain ⟨M35, a, n, c, rfl, hl, hn2, hrow, hle35, H⟩ := H.freezeSl .head
      have hfl := flatten_len (l := gs.reverse) (m := 9) fun x hx => hg9 x (List.mem_reverse.1 hx)
      refine GoL.stepS rfl rfl (mvL rfl ?_)
      refine GoL.stepS rfl rfl (r_call0 hdr cc68 (join_str_spec (xs := gs.reverse) (sep := []) (by rw [List.length_map] at hl; omega) hn2 hrow (by rw [List.length_reverse]; omega) (by rw [join_flat]; rw [List.length_reverse] at hfl; omega)) H ?_); clear H; rintro v36 M36 L36 w hM36 ⟨rfl, rfl, rfl⟩ H
      refine GoL.stepS rfl rfl (asS rfl ?_)
      refine GoL.nil ?_
      refine Goes.ret (ret1 (v := .string _) rfl rfl rfl H.nil ⟨rfl, ?_⟩)
      rw [join_flat, ← hg]; rfl

end Go.Proofs.YtlcpdkckldlceaaGreatDoor
namespace Go.Proofs.YtlcpdkckldlceaaGreatDoor
open Go.Sx Go.Nat32 Go.Dec Go.PolyL Go.Lib Go.Sort
attribute [local irreducible] pt sl itc itm
set_option maxRecDepth 100000
set_option linter.unusedVariables false
set_option linter.unusedSimpArgs false
set_option maxHeartbeats 1000000

theorem kl_of_asc {ks : List (Nat × Nat)} (h : Asc ks) (hn : ks.Nodup) : ks.Pairwise kl := by
  have := h.and hn
  exact this.imp fun ⟨h1, h2⟩ => kl.tri h1 (Ne.symm h2)

theorem lim_pow10 {k x : Nat} (lx : lim k x) : x < 10 ^ (10 * k) := by
  have h1 : (4294967296 : Nat) ^ k ≤ (10 ^ 10) ^ k := Nat.pow_le_pow_left (by decide) k
  rw [← Nat.pow_mul] at h1
  exact Nat.lt_of_lt_of_le lx h1

theorem flatP_get {ks : List (Nat × Nat)} {j : Nat} {k : Nat × Nat} (h : ks[j]? = some k) : (flat ks)[j * 2]? = some (.int .i64 (k.1 : Int)) ∧ (flat ks)[j * 2 + 1]? = some (.int .i64 (k.2 : Int)) := by
  induction ks generalizing j with
  | nil => simp at h
  | cons x l ih =>
    cases j with
    | zero => obtain rfl : x = k := by simpa using h
              exact ⟨rfl, rfl⟩
    | succ j =>
      have := ih (j := j) (by simpa using h)
      have e : ∀ m, (flat (x :: l))[m + 2]? = (flat l)[m]? := fun m => by
        show (encP x ++ flat l)[m + 2]? = _
        rw [List.getElem?_append_right (by simp [encP])]; rfl
      rw [Nat.succ_mul, show j * 2 + 2 + 1 = j * 2 + 1 + 2 by omega, e, e]
      exact this
/-- A power of a row that is read-only, whole. -/
theorem RowP.at {M : RO} {a : Option Addr} {ks : List (Nat × Nat)} (hr : RoRow M a (flat ks)) {j : Nat} {k : Nat × Nat} (hj : ks[j]? = some k) :
    ∃ b o cs e z, a = some ⟨b, o, none⟩ ∧ M b = some (.cells cs e z) ∧ o + j * 2 + 2 ≤ cs.size ∧ cs.extract (o + j * 2) (o + j * 2 + 2) = #[.int .i64 (k.1 : Int), .int .i64 (k.2 : Int)] := by
  obtain ⟨h0, h1⟩ := flatP_get hj
  obtain ⟨b, o, cs, e, z, h, hM, hc0⟩ := hr.at h0
  obtain ⟨_, _, _, _, _, h2, h3, hc1⟩ := hr.at h1
  rw [h] at h2; cases h2; rw [hM] at h3; cases h3
  have hsz : o + (j * 2 + 1) < cs.size := by
    rcases Nat.lt_or_ge (o + (j * 2 + 1)) cs.size with h' | h'
    · exact h'
    · rw [Array.getElem?_eq_none h'] at hc1; cases hc1
  refine ⟨b, o, cs, e, z, h, hM, by omega, ?_⟩
  apply Array.ext_getElem?
  intro i
  rw [Array.getElem?_extract]
  rcases (by omega : i = 0 ∨ i = 1 ∨ 2 ≤ i) with rfl | rfl | h
  · rw [if_pos (by omega)]; exact hc0
  · rw [if_pos (by omega)]; exact hc1
  · rw [if_neg (by omega), Array.getElem?_eq_none (by simpa using h)]

theorem ptext_spec {M : RO} (hT : TabM M) {v : Value} {f : Nat → Nat → Nat} {k : Nat} (hv : PolyV M v f) (lf : ∀ a b, lim k (f a b)) (hk : k ≤ 100000) :
    Sp0 Tryz.prog 16 [v] M [] fun r _ L' => L' = [] ∧ ∃ ks : List (Nat × Nat), ks.Pairwise kl ∧ (∀ k, k ∈ ks ↔ f k.1 k.2 ≠ 0) ∧ r = st (textK f ks) := by
  have hv' := hv
  obtain ⟨rv, ev, cv, rfl, hrv, hev⟩ := hv
  refine Sp0.enter (n := 48) Tryz.func16 rfl Tryz.ntmps16 rfl ?_
  intro E hdr hE H
  subst hE
  refine Goes.seq (Goes.region ?_)
  refine GoL.stepS rfl rfl (bxA rfl H ?_); clear H; intro b1 w hb1 H
  refine GoL.stepS rfl rfl (asS rfl ?_)
  refine GoL.nil ?_
  refine Goes.seq (Goes.seq (Goes.region ?_))
  first | refine GoL.stepS rfl rfl (r_fieldAddr0 fo24_0 rfl ?_) | refine GoL.stepS rfl rfl (r_fieldAddr fo24_0 rfl ?_)
  refine GoL.stepS rfl rfl (ldM tt22 rfl (H.own (by repeat constructor)) (by rfl) ?_)
  refine GoL.stepS rfl rfl (r_lenM tt22 rfl H hrv ?_)
  refine GoL.stepS rfl rfl (r_eql rfl rfl ?_)
  refine GoL.nil ?_
  refine Goes.cond rfl (fun hc => ?_) (fun hc => ?_)
  · have h0 : ev = [] := List.eq_nil_of_length_eq_zero (by simpa using hc)
    subst h0
    refine Goes.seq (Goes.region ?_)
    refine GoL.stepS rfl rfl (asS rfl ?_)
    refine GoL.nil ?_
    refine Goes.ret (ret1 (v := .string _) rfl rfl rfl H.nil ⟨rfl, [], .nil, ?_, rfl⟩)
    intro k
    constructor
    · intro h; cases h
    · intro h
      obtain ⟨e, he, _⟩ := hev.complete _ _ h
      cases he
  · have h0 : ev ≠ [] := by intro h; subst h; simp at hc
    have hne : ∃ a b, f a b ≠ 0 := by
      obtain ⟨e, l, rfl⟩ := List.exists_cons_of_ne_nil h0
      obtain ⟨a, b, _, _, _, h1, _⟩ := hev.sound e (by simp)
      exact ⟨a, b, h1⟩
    refine Goes.skip (Goes.seq (Goes.region ?_))
    refine GoL.stepS rfl rfl (asL rfl ?_)
    refine GoL.nil ?_
    refine Goes.seq (Goes.seq (Goes.region ?_))
    refine GoL.stepS rfl rfl (ldA tt24 rfl (H.own (by repeat constructor)) rfl (by rfl) ?_)
    refine GoL.stepS rfl rfl (r_call cc66 (powers_spec hv' hne) H ?_); clear H; rintro v12 M12 L12 w hM12 ⟨rfl, pa, pn, pc, ks, rfl, rfl, hrow, hpw, hlen⟩ H
    refine GoL.stepS rfl rfl (r_lenSlice tt87 rfl ?_)
    refine GoL.stepS rfl rfl (mvI rfl ?_)
    refine GoL.nil ?_
    refine Goes.block ?_
    have hks1 := kl_of_asc hpw.asc hpw.nodup
    have hks0 : ks ≠ [] := by
      obtain ⟨a, b, h1⟩ := hne
      intro h
      have := (hpw.mem (a, b)).2 h1
      rw [h] at this; cases this
    have htl : ∀ q ∈ ks, (termL (f q.1 q.2) q.1 q.2).length ≤ 10 * k + 17 := fun q hq => by
      have hb := hpw.box q hq
      exact termL_len (lim_pow10 (lf _ _)) (by omega) (by omega)
    have H := H.emp (sl_nil 9 1)
    refine Goes.loopS (3 :: 5 :: 6 :: 14 :: 15 :: 16 :: 17 :: 18 :: 19 :: 20 :: 21 :: 22 :: 23 :: 24 :: 25 :: 26 :: 27 :: 28 :: 29 :: 30 :: 31 :: 32 :: 33 :: 34 :: 35 :: 36 :: 37 :: 38 :: 39 :: 40 :: 41 :: 42 :: 43 :: 44 :: 45 :: []) (fun (s : Nat × Value × RO × List HProp) => [(14, .int .i64 (s.1 : Int)), (3, s.2.1)]) (fun s w => s.1 ≤ ks.length ∧ M12.le s.2.2.1 ∧ Hp E s.2.2.1 (sl 9 1 s.2.1 (((ks.take s.1).map fun q => termL (f q.1 q.2) q.1 q.2).map str) :: pt b1 (.cells #[.map rv] 24) :: s.2.2.2) w) (fun s => ks.length - s.1) (0, .slice none 0 0, M12, _) ⟨rfl, rfl, trivial⟩ ⟨Nat.zero_le _, RO.le.refl _, H⟩ ?_
    clear H
    rintro ⟨i, sv, M1, L1⟩ f1 w ⟨hi, hM1, H⟩ again
    dsimp only at hi hM1 H
    have hTM := (hT.mono hM12).mono hM1
    refine Goes.seq (Goes.region ?_)
    refine GoL.stepS rfl rfl (r_lss rfl rfl ?_)
    refine GoL.nil ?_
    refine Goes.seq ?_
    refine Goes.cond rfl (fun hlt => ?_) (fun hlt => ?_)
    · have hin : i < ks.length := by have : (i : Int) < (ks.length : Int) := by simpa using hlt
                                     omega
      obtain ⟨⟨ta, tb⟩, ht⟩ : ∃ q, ks[i]? = some q := ⟨ks[i], List.getElem?_eq_getElem hin⟩
      obtain ⟨qb, qo, qcs, qe, qz, rfl, hMq, hqs, hqx⟩ := RowP.at hrow ht
      have htm := List.mem_of_getElem? ht
      have hbox := hpw.box _ htm
      have hlen1 := htl _ htm
      have hg0 := (hpw.mem _).1 htm
      dsimp only at hqx hbox hlen1 hg0
      have htk : ks.take (i + 1) = ks.take i ++ [(ta, tb)] := by rw [List.take_add_one, ht]; rfl
      have hrvM := (hrv.mono hM12).mono hM1
      have hevM := (hev.mono hM12).mono hM1
      obtain ⟨o, ho⟩ := FindOK.ex ev (key ta tb)
      have hnat := hevM.find ho
      obtain ⟨va, vn, vc, hvv⟩ := hnat.shape
      rw [hvv] at hnat
      refine Goes.skip (Goes.seq (Goes.block (Goes.seq (Goes.region ?_))))
      refine GoL.stepS rfl rfl (r_indexAddrN tt87 tt90 rfl rfl hin ?_)
      refine GoL.stepS rfl rfl (r_load (v := .agg #[.int .i64 (ta : Int), .int .i64 (tb : Int)]) tt90 rfl (H.ro (hM1 _ _ hMq)) (rd_aggE rfl hqs hqx) ?_)
      refine GoL.stepS rfl rfl (r_alloc tt90 H ?_); clear H; intro b5 w hb5 H
      refine GoL.step0 rfl (stA tt90 rfl rfl H (by repeat constructor) rfl rfl (by rfl) ?_); clear H; intro w H
      refine GoL.nil ?_
      refine Goes.seq (Goes.region ?_)
      first | refine GoL.stepS rfl rfl (r_fieldAddr0 fo24_0 rfl ?_) | refine GoL.stepS rfl rfl (r_fieldAddr fo24_0 rfl ?_)
      refine GoL.stepS rfl rfl (ldM tt22 rfl (H.own (by repeat constructor)) (by rfl) ?_)
      refine GoL.stepS rfl rfl (ldA tt90 rfl (H.own (by repeat constructor)) rfl (by rfl) ?_)
      refine GoL.stepS rfl rfl (r_lookupMO (k := key ta tb) tt22 tt49 keyedP rfl rfl H hrvM (key_ok (by first | omega | (dsimp only; omega)) (by first | omega | (dsimp only; omega))) (fun o' ho' => ho'.uniq hrv.ok ho) ?_); rw [hvv]
      refine GoL.stepS rfl rfl (r_call0 hdr cc27 (natString_spec hTM hnat (lf ta tb) (by first | omega | (dsimp only; omega))) H ?_); clear H; rintro v22 M22 L22 w hM22 ⟨rfl, rfl⟩ H
      refine GoL.stepS rfl rfl (asS rfl ?_)
      refine GoL.nil ?_
      refine Goes.seq (Goes.seq (Goes.region ?_))
      first | refine GoL.stepS rfl rfl (r_fieldAddr0 fo90_0 rfl ?_) | refine GoL.stepS rfl rfl (r_fieldAddr fo90_0 rfl ?_)
      refine GoL.stepS rfl rfl (ldI tt3 rfl (H.own (by repeat constructor)) (by rfl) ?_)
      refine GoL.stepS rfl rfl (r_gtr rfl rfl ?_)
      refine GoL.nil ?_
      have hd1 := decDigits_len (lim_pow10 (lf ta tb))
      have hd2 := pw_len (c := 120) (n := ta) (k := 4) (by omega)
      have hd4 := decDigits_len (x := ta) (k := 4) (by omega)
      have hd5 := decDigits_len (x := tb) (k := 4) (by omega)
      have hi1 : itoa (ta : Int) = decDigits ta := by rw [itoa_nonneg]
      have hi2 : itoa (tb : Int) = decDigits tb := by rw [itoa_nonneg]
      refine Goes.cutT [6, 26, 27, 28, 29, 30, 31] [(6, st (decDigits (f ta tb)))] (fun (_ : Unit) => [(6, st (decDigits (f ta tb) ++ pw 120 ta))]) (fun _ w => ∃ M', M22.le M' ∧ Hp E M' (pt b5 (.cells #[.int .i64 (ta : Int), .int .i64 (tb : Int)] 90) :: sl 9 1 sv (((ks.take i).map fun q => termL (f q.1 q.2) q.1 q.2).map str) :: pt b1 (.cells #[.map rv] 24) :: L1) w) ⟨rfl, trivial⟩ ?aft ?cut
      case cut =>
        intro f2 meet
        refine Goes.cond rfl (fun ha0 => ?_) (fun ha0 => ?_)
        · have ha0' : ta ≠ 0 := by have : 0 < (ta : Int) := by simpa using ha0
                                   omega
          refine Goes.region ?_
          refine GoL.stepS rfl rfl (mvS rfl ?_)
          first | refine GoL.stepS rfl rfl (r_fieldAddr0 fo90_0 rfl ?_) | refine GoL.stepS rfl rfl (r_fieldAddr fo90_0 rfl ?_)
          refine GoL.stepS rfl rfl (ldI tt3 rfl (H.own (by repeat constructor)) (by rfl) ?_)
          refine GoL.stepS rfl rfl (r_call cc67 (itoa_spec (hTM.mono hM22) (n := (ta : Int)) (by first | omega | (dsimp only; omega)) (by first | omega | (dsimp only; omega))) H ?_); clear H; rintro v29 M29 L29 w hM29 ⟨rfl, rfl, rfl⟩ H
          refine GoL.stepS rfl rfl (r_concat (a := [32, 120, 94]) (b := itoa (ta : Int)) rfl rfl (by rw [hi1]; show 3 + _ ≤ _; omega) ?_)
          refine GoL.stepS rfl rfl (r_concat (a := decDigits (f ta tb)) (b := [32, 120, 94] ++ itoa (ta : Int)) rfl rfl (by rw [hi1, List.length_append]; show _ + (3 + _) ≤ _; omega) ?_)
          refine GoL.stepS rfl rfl (asS rfl ?_)
          refine GoL.nil ?_
          refine meet () _ _ ⟨?_, trivial⟩ (.of_strip (by kernel_rfl)) ⟨_, hM29, H⟩
          unfold pw; rw [if_neg ha0', hi1]; rfl
        · have ha0' : ta = 0 := by have : ¬ 0 < (ta : Int) := by simpa using ha0
                                   omega
          refine Goes.skip ?_
          refine meet () _ _ ⟨?_, trivial⟩ (.of_strip (by kernel_rfl)) ⟨_, RO.le.refl _, H⟩
          unfold pw; rw [if_pos ha0', List.append_nil]; rfl
      case aft =>
        clear H
        rintro _ f3 w ⟨M3, hM3, H⟩
        refine Goes.seq (Goes.seq (Goes.region ?_))
        first | refine GoL.stepS rfl rfl (r_fieldAddr0 fo90_1 rfl ?_) | refine GoL.stepS rfl rfl (r_fieldAddr fo90_1 rfl ?_)
        refine GoL.stepS rfl rfl (ldI tt3 rfl (H.own (by repeat constructor)) (by rfl) ?_)
        refine GoL.stepS rfl rfl (r_gtr rfl rfl ?_)
        refine GoL.nil ?_
        refine Goes.cutT [6, 35, 36, 37, 38, 39, 40] [(6, st (decDigits (f ta tb) ++ pw 120 ta))] (fun (_ : Unit) => [(6, st (decDigits (f ta tb) ++ pw 120 ta ++ pw 121 tb))]) (fun _ w => ∃ M', M3.le M' ∧ Hp E M' (pt b5 (.cells #[.int .i64 (ta : Int), .int .i64 (tb : Int)] 90) :: sl 9 1 sv (((ks.take i).map fun q => termL (f q.1 q.2) q.1 q.2).map str) :: pt b1 (.cells #[.map rv] 24) :: L1) w) ⟨rfl, trivial⟩ ?aft2 ?cut2
        case cut2 =>
          intro f4 meet
          refine Goes.cond rfl (fun hb0 => ?_) (fun hb0 => ?_)
          · have hb0' : tb ≠ 0 := by have : 0 < (tb : Int) := by simpa using hb0
                                     omega
            refine Goes.region ?_
            refine GoL.stepS rfl rfl (mvS rfl ?_)
            first | refine GoL.stepS rfl rfl (r_fieldAddr0 fo90_1 rfl ?_) | refine GoL.stepS rfl rfl (r_fieldAddr fo90_1 rfl ?_)
            refine GoL.stepS rfl rfl (ldI tt3 rfl (H.own (by repeat constructor)) (by rfl) ?_)
            refine GoL.stepS rfl rfl (r_call cc67 (itoa_spec ((hTM.mono hM22).mono hM3) (n := (tb : Int)) (by first | omega | (dsimp only; omega)) (by first | omega | (dsimp only; omega))) H ?_); clear H; rintro v38 M38 L38 w hM38 ⟨rfl, rfl, rfl⟩ H
            refine GoL.stepS rfl rfl (r_concat (a := [32, 121, 94]) (b := itoa (tb : Int)) rfl rfl (by rw [hi2]; show 3 + _ ≤ _; omega) ?_)
            refine GoL.stepS rfl rfl (r_concat (a := decDigits (f ta tb) ++ pw 120 ta) (b := [32, 121, 94] ++ itoa (tb : Int)) rfl rfl (by rw [hi2, List.length_append, List.length_append]; show _ + (3 + _) ≤ _; omega) ?_)
            refine GoL.stepS rfl rfl (asS rfl ?_)
            refine GoL.nil ?_
            refine meet () _ _ ⟨?_, trivial⟩ (.of_strip (by kernel_rfl)) ⟨_, hM38, H⟩
            unfold pw; rw [if_neg hb0', hi2]; rfl
          · have hb0' : tb = 0 := by have : ¬ 0 < (tb : Int) := by simpa using hb0
                                     omega
            refine Goes.skip ?_
            refine meet () _ _ ⟨?_, trivial⟩ (.of_strip (by kernel_rfl)) ⟨_, RO.le.refl _, H⟩
            unfold pw; rw [if_pos hb0', List.append_nil]; rfl
        case aft2 =>
          clear H
          rintro _ f5 w ⟨M4, hM4, H⟩
          refine Goes.region ?_
          refine GoL.stepS rfl rfl (r_mv (v := sv) rfl ?_)
          refine GoL.stepS rfl rfl (mvS rfl ?_)
          refine GoL.stepS rfl rfl (r_bsl (cells := [.string _]) tt86 tt9 rfl (by rfl) H ?_); clear H; intro b43 w hb43 H
          refine GoL.stepS rfl rfl (r_appendO (m := 1) tt86 tt9 tt86 (by intro k hk; cases hk) rfl rfl rfl H (.tail (.tail .head)) .head rfl rfl rfl rfl (by rw [List.length_map, List.length_map, List.length_take]; omega) ?_); clear H; intro v44 w H
          refine GoL.stepS rfl rfl (r_as (v := v44) rfl ?_)
          refine GoL.nil ?_
          refine Goes.inBlock (Goes.region ?_)
          first | refine GoL.stepS rfl rfl (r_addI rfl rfl (by first | omega | (dsimp only; omega)) (by first | omega | (dsimp only; omega)) ?_) | refine GoL.stepS rfl rfl (r_add rfl rfl ?_)
          refine GoL.stepS rfl rfl (mvI rfl ?_)
          refine GoL.nil ?_
          have hle4 : M12.le M4 := fun b o h => hM4 _ _ (hM3 _ _ (hM22 _ _ (hM1 _ _ h)))
          refine again (i + 1, v44, M4, []) _ _ ⟨rfl, rfl, trivial⟩ (.of_strip (by kernel_rfl)) ⟨by first | omega | (dsimp only; omega), hle4, ?_⟩ (by first | omega | (dsimp only; omega))
          dsimp only
          have e1 : str (termL (f ta tb) ta tb) = st (decDigits (f ta tb) ++ pw 120 ta ++ pw 121 tb) := by unfold termL; rw [List.append_assoc]; rfl
          rw [htk, List.map_append, List.map_singleton, List.map_append, List.map_singleton, e1]
          exact H.sel (.cons (by repeat constructor) (.cons (by repeat constructor) .nil))
    · have hin : i = ks.length := by have : ¬ (i : Int) < (ks.length : Int) := by simpa using hlt
                                     omega
      subst hin
      rw [List.take_length] at H

      refine Goes.exit rfl (Goes.seq (Goes.region ?_))
      obtain ⟨M5, a, n, c, rfl, hl, hn2, hrow5, hle5, H⟩ := H.freezeSl .head
      have hjl := join_len (l := ks.map fun q => termL (f q.1 q.2) q.1 q.2) (sep := plusL) (m := 10 * k + 17) fun x hx => by
        obtain ⟨q, hq, rfl⟩ := List.mem_map.1 hx
        exact htl q hq
      have hjl2 : (ks.map fun q => termL (f q.1 q.2) q.1 q.2).length * (10 * k + 17 + plusL.length) ≤ 2049 * 2049 * (10 * k + 17 + 3) := by
        rw [List.length_map]
        exact Nat.mul_le_mul hlen (Nat.le_refl _)
      refine GoL.stepS rfl rfl (mvL rfl ?_)
      refine GoL.stepS rfl rfl (r_call0 hdr cc68 (join_str_spec (xs := ks.map fun q => termL (f q.1 q.2) q.1 q.2) (sep := plusL) (by rw [List.length_map] at hl; omega) hn2 hrow5 (by rw [List.length_map]; omega) (by first | omega | (dsimp only; omega))) H ?_); clear H; rintro v47 M47 L47 w hM47 ⟨rfl, rfl, rfl⟩ H
      refine GoL.stepS rfl rfl (asS rfl ?_)
      refine GoL.nil ?_
      refine Goes.ret (ret1 (v := .string _) rfl rfl rfl H.nil ⟨rfl, ks, hks1, hpw.mem, ?_⟩)
      rw [textK, if_neg hks0]; rfl

end Go.Proofs.YtlcpdkckldlceaaGreatDoor
