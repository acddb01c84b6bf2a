/-
  What the reference functions return (first part).
-/
import Derived.Test.YtlcpdkckldlceaaGreatDoorFT
import Derived.Test.YtlcpdkckldlceaaGreatDoorFC
import Derived.Test.YtlcpdkckldlceaaGreatDoorFB
import Derived.Test.YtlcpdkckldlceaaGreatDoorFD
namespace Go.Proofs.YtlcpdkckldlceaaGreatDoor
open Go.Sx Go.Nat32 Go.Dec
attribute [local irreducible] pt sl itc
set_option maxRecDepth 100000
set_option linter.unusedVariables false
set_option linter.unusedSimpArgs false

def iv (x : Nat) : Value := .int .i64 (x : Int)

/-- The slice value holds these digits, read-only. -/
structure Row10 (M : RO) (a : Option Addr) (n c : Nat) (ws : List Nat) : Prop where
  len : n = ws.length
  cap : n ≤ c
  big : n ≤ 1073741824
  dig : isD ws
  row : RoRow M a (ws.map iv)

theorem Row10.mono {M M' : RO} {a : Option Addr} {n c : Nat} {ws : List Nat} (h : Row10 M a n c ws) (hM : M.le M') : Row10 M' a n c ws := ⟨h.len, h.cap, h.big, h.dig, h.row.mono hM⟩
theorem Row10.take {M : RO} {a : Option Addr} {n c : Nat} {ws : List Nat} (h : Row10 M a n c ws) {k : Nat} (hk : k ≤ n) : Row10 M a k c (ws.take k) :=
  ⟨by rw [List.length_take]; have := h.len; omega, by have := h.cap; omega, by have := h.big; omega, fun x hx => h.dig x (List.mem_of_mem_take hx), by rw [List.map_take]; exact h.row.take k⟩
theorem Row10.at {M : RO} {a : Option Addr} {n c : Nat} {ws : List Nat} (h : Row10 M a n c ws) {j : Nat} (hj : j < n) : ∃ b o cs e z, a = some ⟨b, o, none⟩ ∧ M b = some (.cells cs e z) ∧ cs[o + j]? = some (iv (ws.getD j 0)) := by
  have hlt : j < ws.length := by have := h.len; omega
  refine h.row.at (v := iv (ws.getD j 0)) ?_
  rw [List.getElem?_map, List.getElem?_eq_getElem hlt, List.getD_eq_getElem?_getD, List.getElem?_eq_getElem hlt]; rfl
theorem Row10.of_sl {M : RO} {a : Option Addr} {n c : Nat} {ws : List Nat} (hl : (ws.map iv).length = n * 1) (hc : n ≤ c) (hb : ws.length ≤ 1073741824) (hs : isD ws) (hr : RoRow M a (ws.map iv)) : Row10 M a n c ws :=
  ⟨by rw [List.length_map] at hl; omega, hc, by rw [List.length_map] at hl; omega, hs, hr⟩

/-- The value is the reference's number x. -/
def RefN (M : RO) (v : Value) (x : Nat) : Prop := ∃ a n c, v = .slice a n c ∧ Row10 M a n c (dgs x)
theorem RefN.mono {M M' : RO} {v : Value} {x : Nat} (h : RefN M v x) (hM : M.le M') : RefN M' v x := let ⟨a, n, c, h1, h2⟩ := h; ⟨a, n, c, h1, h2.mono hM⟩
theorem RefN.of_trimz {M : RO} {a : Option Addr} {n c : Nat} {ws : List Nat} (hd : isD ws) (h : Row10 M a n c (trimz ws)) : RefN M (.slice a n c) (dv ws) := ⟨a, n, c, rfl, by rw [← trimz_dgs hd]; exact h⟩
theorem RefN.zero (M : RO) : RefN M (.slice none 0 0) 0 := ⟨none, 0, 0, rfl, by rw [dgs_zero]; exact ⟨rfl, Nat.le_refl _, by decide, (fun x hx => by cases hx), .inl rfl⟩⟩
theorem iv_map_append (l : List Nat) (x : Nat) : (l ++ [x]).map iv = l.map iv ++ [iv x] := by simp
theorem iv_set (ws : List Nat) (j x : Nat) : (ws.map iv).toArray.setIfInBounds j (iv x) = ((ws.set j x).map iv).toArray := by
  rw [List.setIfInBounds_toArray, List.map_set]
theorem iv_get (ws : List Nat) {j : Nat} (hj : j < ws.length) : (ws.map iv).toArray[j]? = some (iv (ws.getD j 0)) := by
  rw [List.getElem?_toArray, List.getElem?_map, List.getElem?_eq_getElem hj, List.getD_eq_getElem?_getD, List.getElem?_eq_getElem hj]; rfl

theorem rtrim_spec {M : RO} {a : Option Addr} {n c : Nat} {ws : List Nat} (h : Row10 M a n c ws) : Sp Tryz.prog 94 [.slice a n c] M [] fun v M' L' => L' = [] ∧ M' = M ∧ RefN M' v (dv ws) := by
  refine Sp.enter (n := 21) Tryz.func94 rfl Tryz.ntmps94 rfl ?_
  intro E hE H
  subst hE
  have hlen := h.len
  refine Goes.seq (Goes.region ?_)
  refine GoL.stepS rfl rfl (asL rfl ?_)
  refine GoL.nil ?_
  refine Goes.seq (Goes.block ?_)
  refine Goes.loopS (0 :: 3 :: 4 :: 5 :: 6 :: 7 :: 8 :: 9 :: 10 :: 11 :: 12 :: 13 :: 14 :: 15 :: 16 :: 17 :: 18 :: 19 :: []) (fun k => [(0, .slice a k c)]) (fun k w => k ≤ n ∧ trimz ws = trimz (ws.take k) ∧ Hp E E.M [] w) (fun k => k) n ⟨rfl, trivial⟩ ⟨Nat.le_refl _, by rw [List.take_of_length_le (by omega)], H⟩ ?_
  clear H
  rintro k f w ⟨hk, ht, H⟩ again
  by_cases hk0 : k = 0
  · refine Goes.seq (Goes.seq (Goes.region ?_))
    refine GoL.stepS rfl rfl (mvL rfl ?_)
    refine GoL.stepS rfl rfl (r_lenSlice tt55 rfl ?_)
    refine GoL.stepS rfl rfl (r_gtrF rfl rfl (by first | omega | (dsimp only; omega)) ?_)
    refine GoL.stepS rfl rfl (mvB rfl ?_)
    refine GoL.stepNS rfl rfl rfl ?_
    refine GoL.stepNS rfl rfl rfl ?_
    refine GoL.stepNS rfl rfl rfl ?_
    refine GoL.stepNS rfl rfl rfl ?_
    refine GoL.stepNS rfl rfl rfl ?_
    refine GoL.stepNS rfl rfl rfl ?_
    refine GoL.stepNS rfl rfl rfl ?_
    refine GoL.stepS rfl rfl (r_pickF (v := .bool _) rfl rfl ?_)
    refine GoL.nil ?_
    refine Goes.condF rfl (rfl) ?_
    refine Goes.exit rfl (Goes.seq (Goes.region ?_))
    refine GoL.stepS rfl rfl (mvL rfl ?_)
    refine GoL.stepS rfl rfl (asL rfl ?_)
    refine GoL.nil ?_
    subst hk0
    exact Goes.ret (ret1 (v := .slice _ _ _) rfl rfl rfl H.nil ⟨rfl, rfl, .of_trimz h.dig (by rw [ht]; have := h.take (Nat.zero_le n); simpa [trimz] using this)⟩)
  · obtain ⟨j, rfl⟩ : ∃ j, k = j + 1 := ⟨k - 1, by omega⟩
    have hcap := h.cap
    have hbig := h.big
    obtain ⟨b, o, cs, e, z, rfl, hM, hv⟩ := h.at (show j < n by omega)
    have hlast := take_snoc (show j < ws.length by omega)
    refine Goes.seq (Goes.seq (Goes.region ?_))
    refine GoL.stepS rfl rfl (mvL rfl ?_)
    refine GoL.stepS rfl rfl (r_lenSlice tt55 rfl ?_)
    refine GoL.stepS rfl rfl (r_gtrT rfl rfl (by first | omega | (dsimp only; omega)) ?_)
    refine GoL.stepS rfl rfl (mvB rfl ?_)
    refine GoL.stepYS rfl rfl rfl (mvL rfl ?_)
    refine GoL.stepYS rfl rfl rfl (mvL rfl ?_)
    refine GoL.stepYS rfl rfl rfl (r_lenSlice tt55 rfl ?_)
    refine GoL.stepYS rfl rfl rfl (r_subR (j : Int) rfl rfl (by first | omega | (dsimp only; omega)) (by first | omega | (dsimp only; omega)) (by first | omega | (dsimp only; omega)) ?_)
    refine GoL.stepYS rfl rfl rfl (r_indexAddrN tt55 tt3 rfl rfl (by first | omega | (dsimp only; omega)) ?_)
    refine GoL.stepYS rfl rfl rfl (ldI tt3 rfl (H.ro hM) (by rw [Nat.mul_one]; exact hv) ?_)
    refine GoL.stepYS rfl rfl rfl (r_eql rfl rfl ?_)
    refine GoL.stepS rfl rfl (r_pickT (v := .bool _) rfl rfl ?_)
    refine GoL.nil ?_
    refine Goes.cond rfl (fun hc => ?_) (fun hc => ?_)
    · refine Goes.skip (Goes.block (Goes.region ?_))
      refine GoL.stepS rfl rfl (mvL rfl ?_)
      refine GoL.stepS rfl rfl (mvL rfl ?_)
      refine GoL.stepS rfl rfl (r_lenSlice tt55 rfl ?_)
      refine GoL.stepS rfl rfl (r_subR (j : Int) rfl rfl (by first | omega | (dsimp only; omega)) (by first | omega | (dsimp only; omega)) (by first | omega | (dsimp only; omega)) ?_)
      refine GoL.stepS rfl rfl (r_slTo tt55 tt3 rfl rfl (by first | omega | (dsimp only; omega)) ?_)
      refine GoL.stepS rfl rfl (asL rfl ?_)
      refine GoL.nil ?_
      refine Goes.inBlock ?_
      have hz : ws.getD j 0 = 0 := by simpa using hc
      refine again j _ _ ⟨rfl, trivial⟩ (.of_strip (by kernel_rfl)) ⟨by omega, ?_, H⟩ (by omega)
      rw [ht, hlast, hz, trimz_snoc_zero]
    · refine Goes.exit rfl (Goes.seq (Goes.region ?_))
      refine GoL.stepS rfl rfl (mvL rfl ?_)
      refine GoL.stepS rfl rfl (asL rfl ?_)
      refine GoL.nil ?_
      have hz : ws.getD j 0 ≠ 0 := by simpa using hc
      exact Goes.ret (ret1 (v := .slice _ _ _) rfl rfl rfl H.nil ⟨rfl, rfl, .of_trimz h.dig (by rw [ht, hlast, trimz_snoc_pos _ hz, ← hlast]; exact h.take hk)⟩)

theorem rat_spec {M : RO} {a : Option Addr} {n c : Nat} {ws : List Nat} (h : Row10 M a n c ws) (i : Nat) : Sp Tryz.prog 101 [.slice a n c, .int .i64 (i : Int)] M [] fun v M' L' => L' = [] ∧ M' = M ∧ v = .int .i64 ((ws.getD i 0 : Nat) : Int) := by
  refine Sp.enter (n := 13) Tryz.func101 rfl Tryz.ntmps101 rfl ?_
  intro E hE H
  subst hE
  have hlen := h.len
  refine Goes.seq (Goes.region ?_)
  refine GoL.stepS rfl rfl (asI rfl ?_)
  refine GoL.nil ?_
  refine Goes.seq (Goes.seq (Goes.region ?_))
  refine GoL.stepS rfl rfl (mvI rfl ?_)
  refine GoL.stepS rfl rfl (mvL rfl ?_)
  refine GoL.stepS rfl rfl (r_lenSlice tt55 rfl ?_)
  refine GoL.stepS rfl rfl (r_lss rfl rfl ?_)
  refine GoL.nil ?_
  refine Goes.cond rfl (fun hc => ?_) (fun hc => ?_)
  · have hi : i < n := by simpa using hc
    obtain ⟨b, o, cs, e, z, rfl, hM, hv⟩ := h.at hi
    refine Goes.seq (Goes.region ?_)
    refine GoL.stepS rfl rfl (mvL rfl ?_)
    refine GoL.stepS rfl rfl (mvI rfl ?_)
    refine GoL.stepS rfl rfl (r_indexAddrN tt55 tt3 rfl rfl (by first | omega | (dsimp only; omega)) ?_)
    refine GoL.stepS rfl rfl (ldI tt3 rfl (H.ro hM) (by rw [Nat.mul_one]; exact hv) ?_)
    refine GoL.stepS rfl rfl (asI rfl ?_)
    refine GoL.nil ?_
    exact Goes.ret (ret1 (v := .int _ _) rfl rfl rfl H.nil ⟨rfl, rfl, rfl⟩)
  · refine Goes.skip (Goes.seq (Goes.region ?_))
    refine GoL.stepS rfl rfl (asI rfl ?_)
    refine GoL.nil ?_
    refine Goes.ret (ret1 (v := .int _ _) rfl rfl rfl H.nil ⟨rfl, rfl, ?_⟩)
    have : n ≤ i := by simpa using hc
    rw [List.getD_eq_getElem?_getD, List.getElem?_eq_none (by omega)]; rfl

theorem rof_spec {M : RO} {x : Nat} (hx : x < 18446744073709551616) : Sp Tryz.prog 30 [.int .u64 (x : Int)] M [] fun v M' L' => L' = [] ∧ RefN M' v x := by
  refine Sp.enter (n := 15) Tryz.func30 rfl Tryz.ntmps30 rfl ?_
  intro E hE H
  subst hE
  refine Goes.seq (Goes.region ?_)
  refine GoL.stepS rfl rfl (asL rfl ?_)
  refine GoL.nil ?_
  refine Goes.seq (Goes.region ?_)
  refine GoL.stepS rfl rfl (asL rfl ?_)
  refine GoL.nil ?_
  refine Goes.seq (Goes.block ?_)
  have H := H.emp (sl_nil 3 1)
  refine Goes.loopS [0, 3, 4, 5, 6, 7, 8, 9, 10, 11, 12, 13] (fun (s : Nat × List Nat × Value) => [(0, .int .u64 (s.1 : Int)), (3, s.2.2)]) (fun s w => s.1 < 18446744073709551616 ∧ s.2.1 ++ dgs s.1 = dgs x ∧ Hp E E.M [sl 3 1 s.2.2 (s.2.1.map iv)] w) (fun s => s.1) (x, [], .slice none 0 0) ⟨rfl, rfl, trivial⟩ ⟨hx, rfl, H⟩ ?_
  clear H
  rintro ⟨y, l, v⟩ f w ⟨hy, hl, H⟩ again
  dsimp only at hy hl H
  have hlen := congrArg List.length hl
  rw [List.length_append] at hlen
  have hlx := dgs_len (show x < 10 ^ 20 by omega)
  refine Goes.seq (Goes.seq (Goes.region ?_))
  refine GoL.stepS rfl rfl (mvI rfl ?_)
  refine GoL.stepS rfl rfl (r_gtr rfl rfl ?_)
  refine GoL.nil ?_
  refine Goes.cond rfl (fun hc => ?_) (fun hc => ?_)
  · have hy0 : y ≠ 0 := by have : 0 < y := by simpa using hc
                           omega
    refine Goes.skip (Goes.block (Goes.seq (Goes.region ?_)))
    refine GoL.stepS rfl rfl (r_mv (v := v) rfl ?_)
    refine GoL.stepS rfl rfl (mvI rfl ?_)
    refine GoL.stepS rfl rfl (r_remR ((y % 10 : Nat) : Int) rfl rfl (by first | omega | (dsimp only; omega)) (by first | omega | (dsimp only; omega)) (by first | omega | (dsimp only; omega)) ?_)
    refine GoL.stepS rfl rfl (r_cv_i64 tt51 tt3 rfl (by first | omega | (dsimp only; omega)) (by first | omega | (dsimp only; omega)) ?_)
    refine GoL.stepS rfl rfl (r_bsl (cells := [.int _ _]) tt55 tt3 rfl (by rfl) H ?_); clear H; intro b10 w hb10 H
    refine GoL.stepS rfl rfl (r_appendO (m := 1) tt55 tt3 tt55 (by intro k hk; cases hk) rfl rfl rfl H (.tail .head) .head rfl rfl rfl rfl (by rw [List.length_map]; omega) ?_); clear H; intro v11 w H
    refine GoL.stepS rfl rfl (r_as (v := v11) rfl ?_)
    refine GoL.nil ?_
    refine Goes.region ?_
    refine GoL.stepS rfl rfl (mvI rfl ?_)
    refine GoL.stepS rfl rfl (r_quoUR ((y / 10 : Nat) : Int) rfl rfl (by first | omega | (dsimp only; omega)) (by first | omega | (dsimp only; omega)) (by first | omega | (dsimp only; omega)) (by simp) ?_)
    refine GoL.stepS rfl rfl (asI rfl ?_)
    refine GoL.nil ?_
    refine Goes.inBlock ?_
    refine again (y / 10, l ++ [y % 10], v11) _ _ ⟨rfl, rfl, trivial⟩ (.of_strip (by kernel_rfl)) ⟨by dsimp only; omega, ?_, ?_⟩ (by dsimp only; omega)
    · dsimp only; rw [List.append_assoc]; rw [dgs_pos hy0] at hl; exact hl
    · dsimp only; rw [iv_map_append]; exact H.right (L := [_])
  · have hy0 : y = 0 := by have : ¬ 0 < y := by simpa using hc
                           omega
    subst hy0
    rw [dgs_zero, List.append_nil] at hl
    subst hl
    refine Goes.exit rfl (Goes.seq (Goes.region ?_))
    refine GoL.stepS rfl rfl (r_mv (v := v) rfl ?_)
    refine GoL.stepS rfl rfl (r_as (v := v) rfl ?_)
    refine GoL.nil ?_
    obtain ⟨M', a, k, c, rfl, hll, hk, hr, hle, H3⟩ := H.freezeSl .head
    exact Goes.ret (ret1 (v := .slice _ _ _) rfl rfl rfl H3.nil ⟨rfl, a, k, c, rfl, .of_sl hll hk (by omega) (isD_dgs x) hr⟩)

end Go.Proofs.YtlcpdkckldlceaaGreatDoor
namespace Go.Proofs.YtlcpdkckldlceaaGreatDoor
open Go.Sx Go.Nat32 Go.Dec
attribute [local irreducible] pt sl itc
set_option maxRecDepth 100000
set_option linter.unusedVariables false
set_option linter.unusedSimpArgs false

theorem radd_spec {M : RO} {u v : Value} {x y k l : Nat} (hx : RefN M u x) (hy : RefN M v y) (lx : x < 10 ^ k) (ly : y < 10 ^ l) (hk : k ≤ 1000000) (hl : l ≤ 1000000) :
    Sp Tryz.prog 69 [u, v] M [] fun r M' L' => L' = [] ∧ RefN M' r (x + y) := by
  obtain ⟨a, n, c, rfl, ha⟩ := hx
  obtain ⟨a', n', c', rfl, hb⟩ := hy
  have hlx := dgs_len lx
  have hly := dgs_len ly
  have hla := ha.len
  have hlb := hb.len
  refine Sp.enter (n := 43) Tryz.func69 rfl Tryz.ntmps69 rfl ?_
  intro E hE H
  subst hE
  refine Goes.seq (Goes.region ?_)
  refine GoL.stepS rfl rfl (asL rfl ?_)
  refine GoL.nil ?_
  refine Goes.seq (Goes.region ?_)
  refine GoL.stepS rfl rfl (asL rfl ?_)
  refine GoL.nil ?_
  refine Goes.seq (Goes.region ?_)
  refine GoL.stepS rfl rfl (asI rfl ?_)
  refine GoL.nil ?_
  refine Goes.seq (Goes.seq (Goes.region ?_))
  refine GoL.stepS rfl rfl (asI rfl ?_)
  refine GoL.nil ?_
  refine Goes.block ?_
  have H := H.emp (sl_nil 3 1)
  refine Goes.loopS (5 :: 6 :: 7 :: 8 :: 9 :: 10 :: 11 :: 12 :: 13 :: 14 :: 15 :: 16 :: 17 :: 18 :: 19 :: 20 :: 21 :: 22 :: 23 :: 24 :: 25 :: 26 :: 27 :: 28 :: 29 :: 30 :: 31 :: 32 :: 33 :: 34 :: 35 :: 36 :: 37 :: 38 :: 39 :: 40 :: []) (fun (s : Nat × Nat × List Nat × Value) => [(7, .int .i64 (s.1 : Int)), (6, .int .i64 (s.2.1 : Int)), (5, s.2.2.2)]) (fun s w => s.2.1 ≤ 1 ∧ s.2.2.1.length = s.1 ∧ isD s.2.2.1 ∧ (s.1 ≤ max n n' ∨ s.1 = max n n' + 1 ∧ s.2.1 = 0) ∧ dv s.2.2.1 + 10 ^ s.1 * s.2.1 = dv ((dgs x).take s.1) + dv ((dgs y).take s.1) ∧ Hp E E.M [sl 3 1 s.2.2.2 (s.2.2.1.map iv)] w) (fun s => max n n' + 2 - s.1) (0, 0, [], .slice none 0 0) ⟨rfl, rfl, rfl, trivial⟩ ⟨Nat.zero_le _, rfl, (fun x hx => by cases hx), .inl (Nat.zero_le _), by simp [dv], H⟩ ?_
  clear H
  rintro ⟨i, cy, o, v⟩ f w ⟨hcy, hol, hod, hi, hs, H⟩ again
  dsimp only at hcy hol hod hi hs H
  have da := isD_getD (isD_dgs x) i
  have db := isD_getD (isD_dgs y) i
  by_cases h1 : i < n
  · have hnext : i + 1 ≤ max n n' ∨ i + 1 = max n n' + 1 ∧ ((dgs x).getD i 0 + (dgs y).getD i 0 + cy) / 10 = 0 := by omega
    refine Goes.seq (Goes.seq (Goes.region ?_))
    refine GoL.stepS rfl rfl (mvI rfl ?_)
    refine GoL.stepS rfl rfl (mvL rfl ?_)
    refine GoL.stepS rfl rfl (r_lenSlice tt55 rfl ?_)
    refine GoL.stepS rfl rfl (r_lssT rfl rfl (by first | omega | (dsimp only; omega)) ?_)
    refine GoL.stepS rfl rfl (mvB rfl ?_)
    refine GoL.stepNS rfl rfl rfl ?_
    refine GoL.stepNS rfl rfl rfl ?_
    refine GoL.stepNS rfl rfl rfl ?_
    refine GoL.stepNS rfl rfl rfl ?_
    refine GoL.stepS rfl rfl (r_pickT (v := .bool true) rfl rfl ?_)
    refine GoL.stepS rfl rfl (mvB rfl ?_)
    refine GoL.stepNS rfl rfl rfl ?_
    refine GoL.stepNS rfl rfl rfl ?_
    refine GoL.stepS rfl rfl (r_pickT (v := .bool true) rfl rfl ?_)
    refine GoL.nil ?_
    refine Goes.condT rfl (rfl) ?_
    refine Goes.skip (Goes.seq (Goes.block (Goes.seq (Goes.region ?_))))
    refine GoL.stepS rfl rfl (mvL rfl ?_)
    refine GoL.stepS rfl rfl (mvI rfl ?_)
    refine GoL.stepS rfl rfl (r_call cc101 (rat_spec ha i) H ?_); clear H; rintro v27 M27 L27 w hM27 ⟨rfl, rfl, rfl⟩ H
    refine GoL.stepS rfl rfl (mvL rfl ?_)
    refine GoL.stepS rfl rfl (mvI rfl ?_)
    refine GoL.stepS rfl rfl (r_call cc101 (rat_spec hb i) H ?_); clear H; rintro v30 M30 L30 w hM30 ⟨rfl, rfl, rfl⟩ H
    refine GoL.stepS rfl rfl (r_addR (((dgs x).getD i 0 + (dgs y).getD i 0 : Nat) : Int) rfl rfl (by first | omega | (dsimp only; omega)) (by first | omega | (dsimp only; omega)) (by first | omega | (dsimp only; omega)) ?_)
    refine GoL.stepS rfl rfl (mvI rfl ?_)
    refine GoL.stepS rfl rfl (r_addR (((dgs x).getD i 0 + (dgs y).getD i 0 + cy : Nat) : Int) rfl rfl (by dsimp only; omega) (by first | omega | (dsimp only; omega)) (by first | omega | (dsimp only; omega)) ?_)
    refine GoL.stepS rfl rfl (asI rfl ?_)
    refine GoL.nil ?_
    refine Goes.seq (Goes.region ?_)
    refine GoL.stepS rfl rfl (r_mv (v := v) rfl ?_)
    refine GoL.stepS rfl rfl (mvI rfl ?_)
    refine GoL.stepS rfl rfl (r_remR ((((dgs x).getD i 0 + (dgs y).getD i 0 + cy) % 10 : Nat) : Int) rfl rfl (by first | omega | (dsimp only; omega)) (by first | omega | (dsimp only; omega)) (by first | omega | (dsimp only; omega)) ?_)
    refine GoL.stepS rfl rfl (r_bsl (cells := [.int _ _]) tt55 tt3 rfl (by rfl) H ?_); clear H; intro b37 w hb37 H
    refine GoL.stepS rfl rfl (r_appendO (m := 1) tt55 tt3 tt55 (by intro k hk; cases hk) rfl rfl rfl H (.tail .head) .head rfl rfl rfl rfl (by rw [List.length_map]; omega) ?_); clear H; intro v38 w H
    refine GoL.stepS rfl rfl (r_as (v := v38) rfl ?_)
    refine GoL.nil ?_
    refine Goes.region ?_
    refine GoL.stepS rfl rfl (mvI rfl ?_)
    refine GoL.stepS rfl rfl (r_quoI rfl rfl (by first | omega | (dsimp only; omega)) (by first | omega | (dsimp only; omega)) (by first | omega | (dsimp only; omega)) ?_)
    refine GoL.stepS rfl rfl (asI rfl ?_)
    refine GoL.nil ?_
    refine Goes.inBlock (Goes.region ?_)
    refine GoL.stepS rfl rfl (mvI rfl ?_)
    first | refine GoL.stepS rfl rfl (r_addI rfl rfl (by first | omega | (dsimp only; omega)) (by first | omega | (dsimp only; omega)) ?_) | refine GoL.stepS rfl rfl (r_add rfl rfl ?_)
    refine GoL.stepS rfl rfl (asI rfl ?_)
    refine GoL.nil ?_
    refine again (i + 1, ((dgs x).getD i 0 + (dgs y).getD i 0 + cy) / 10, o ++ [((dgs x).getD i 0 + (dgs y).getD i 0 + cy) % 10], v38) _ _ ⟨rfl, rfl, rfl, trivial⟩ (.of_strip (by kernel_rfl)) ⟨by dsimp only; omega, by dsimp only; rw [List.length_append]; simp; omega, ?_, ?_, ?_, ?_⟩ (by dsimp only; omega)
    · intro z hz
      rcases List.mem_append.1 hz with hz | hz
      · exact hod z hz
      · have : z = _ := List.mem_singleton.1 hz
        omega
    · dsimp only; exact hnext
    · dsimp only
      rw [dv_snoc, dv_take_succ, dv_take_succ, hol, Nat.pow_succ, Nat.mul_assoc, Nat.add_assoc, ← Nat.mul_add]
      have h1 : ((dgs x).getD i 0 + (dgs y).getD i 0 + cy) % 10 + 10 * (((dgs x).getD i 0 + (dgs y).getD i 0 + cy) / 10) = (dgs x).getD i 0 + (dgs y).getD i 0 + cy := by omega
      rw [h1, Nat.mul_add, Nat.mul_add]; omega
    · dsimp only; rw [iv_map_append]; exact H.right (L := [_])
  · by_cases h2 : i < n'
    · have hnext : i + 1 ≤ max n n' ∨ i + 1 = max n n' + 1 ∧ ((dgs x).getD i 0 + (dgs y).getD i 0 + cy) / 10 = 0 := by omega
      refine Goes.seq (Goes.seq (Goes.region ?_))
      refine GoL.stepS rfl rfl (mvI rfl ?_)
      refine GoL.stepS rfl rfl (mvL rfl ?_)
      refine GoL.stepS rfl rfl (r_lenSlice tt55 rfl ?_)
      refine GoL.stepS rfl rfl (r_lssF rfl rfl (by first | omega | (dsimp only; omega)) ?_)
      refine GoL.stepS rfl rfl (mvB rfl ?_)
      refine GoL.stepYS rfl rfl rfl (mvI rfl ?_)
      refine GoL.stepYS rfl rfl rfl (mvL rfl ?_)
      refine GoL.stepYS rfl rfl rfl (r_lenSlice tt55 rfl ?_)
      refine GoL.stepYS rfl rfl rfl (r_lssT rfl rfl (by first | omega | (dsimp only; omega)) ?_)
      refine GoL.stepS rfl rfl (r_pickF (v := .bool true) rfl rfl ?_)
      refine GoL.stepS rfl rfl (mvB rfl ?_)
      refine GoL.stepNS rfl rfl rfl ?_
      refine GoL.stepNS rfl rfl rfl ?_
      refine GoL.stepS rfl rfl (r_pickT (v := .bool true) rfl rfl ?_)
      refine GoL.nil ?_
      refine Goes.condT rfl (rfl) ?_
      refine Goes.skip (Goes.seq (Goes.block (Goes.seq (Goes.region ?_))))
      refine GoL.stepS rfl rfl (mvL rfl ?_)
      refine GoL.stepS rfl rfl (mvI rfl ?_)
      refine GoL.stepS rfl rfl (r_call cc101 (rat_spec ha i) H ?_); clear H; rintro v27 M27 L27 w hM27 ⟨rfl, rfl, rfl⟩ H
      refine GoL.stepS rfl rfl (mvL rfl ?_)
      refine GoL.stepS rfl rfl (mvI rfl ?_)
      refine GoL.stepS rfl rfl (r_call cc101 (rat_spec hb i) H ?_); clear H; rintro v30 M30 L30 w hM30 ⟨rfl, rfl, rfl⟩ H
      refine GoL.stepS rfl rfl (r_addR (((dgs x).getD i 0 + (dgs y).getD i 0 : Nat) : Int) rfl rfl (by first | omega | (dsimp only; omega)) (by first | omega | (dsimp only; omega)) (by first | omega | (dsimp only; omega)) ?_)
      refine GoL.stepS rfl rfl (mvI rfl ?_)
      refine GoL.stepS rfl rfl (r_addR (((dgs x).getD i 0 + (dgs y).getD i 0 + cy : Nat) : Int) rfl rfl (by dsimp only; omega) (by first | omega | (dsimp only; omega)) (by first | omega | (dsimp only; omega)) ?_)
      refine GoL.stepS rfl rfl (asI rfl ?_)
      refine GoL.nil ?_
      refine Goes.seq (Goes.region ?_)
      refine GoL.stepS rfl rfl (r_mv (v := v) rfl ?_)
      refine GoL.stepS rfl rfl (mvI rfl ?_)
      refine GoL.stepS rfl rfl (r_remR ((((dgs x).getD i 0 + (dgs y).getD i 0 + cy) % 10 : Nat) : Int) rfl rfl (by first | omega | (dsimp only; omega)) (by first | omega | (dsimp only; omega)) (by first | omega | (dsimp only; omega)) ?_)
      refine GoL.stepS rfl rfl (r_bsl (cells := [.int _ _]) tt55 tt3 rfl (by rfl) H ?_); clear H; intro b37 w hb37 H
      refine GoL.stepS rfl rfl (r_appendO (m := 1) tt55 tt3 tt55 (by intro k hk; cases hk) rfl rfl rfl H (.tail .head) .head rfl rfl rfl rfl (by rw [List.length_map]; omega) ?_); clear H; intro v38 w H
      refine GoL.stepS rfl rfl (r_as (v := v38) rfl ?_)
      refine GoL.nil ?_
      refine Goes.region ?_
      refine GoL.stepS rfl rfl (mvI rfl ?_)
      refine GoL.stepS rfl rfl (r_quoI rfl rfl (by first | omega | (dsimp only; omega)) (by first | omega | (dsimp only; omega)) (by first | omega | (dsimp only; omega)) ?_)
      refine GoL.stepS rfl rfl (asI rfl ?_)
      refine GoL.nil ?_
      refine Goes.inBlock (Goes.region ?_)
      refine GoL.stepS rfl rfl (mvI rfl ?_)
      first | refine GoL.stepS rfl rfl (r_addI rfl rfl (by first | omega | (dsimp only; omega)) (by first | omega | (dsimp only; omega)) ?_) | refine GoL.stepS rfl rfl (r_add rfl rfl ?_)
      refine GoL.stepS rfl rfl (asI rfl ?_)
      refine GoL.nil ?_
      refine again (i + 1, ((dgs x).getD i 0 + (dgs y).getD i 0 + cy) / 10, o ++ [((dgs x).getD i 0 + (dgs y).getD i 0 + cy) % 10], v38) _ _ ⟨rfl, rfl, rfl, trivial⟩ (.of_strip (by kernel_rfl)) ⟨by dsimp only; omega, by dsimp only; rw [List.length_append]; simp; omega, ?_, ?_, ?_, ?_⟩ (by dsimp only; omega)
      · intro z hz
        rcases List.mem_append.1 hz with hz | hz
        · exact hod z hz
        · have : z = _ := List.mem_singleton.1 hz
          omega
      · dsimp only; exact hnext
      · dsimp only
        rw [dv_snoc, dv_take_succ, dv_take_succ, hol, Nat.pow_succ, Nat.mul_assoc, Nat.add_assoc, ← Nat.mul_add]
        have h1 : ((dgs x).getD i 0 + (dgs y).getD i 0 + cy) % 10 + 10 * (((dgs x).getD i 0 + (dgs y).getD i 0 + cy) / 10) = (dgs x).getD i 0 + (dgs y).getD i 0 + cy := by omega
        rw [h1, Nat.mul_add, Nat.mul_add]; omega
      · dsimp only; rw [iv_map_append]; exact H.right (L := [_])
    · by_cases h3 : 0 < cy
      · have hnext : i + 1 ≤ max n n' ∨ i + 1 = max n n' + 1 ∧ ((dgs x).getD i 0 + (dgs y).getD i 0 + cy) / 10 = 0 := by
          right
          have e1 : (dgs x).getD i 0 = 0 := by rw [List.getD_eq_getElem?_getD, List.getElem?_eq_none (by omega)]; rfl
          have e2 : (dgs y).getD i 0 = 0 := by rw [List.getD_eq_getElem?_getD, List.getElem?_eq_none (by omega)]; rfl
          omega
        refine Goes.seq (Goes.seq (Goes.region ?_))
        refine GoL.stepS rfl rfl (mvI rfl ?_)
        refine GoL.stepS rfl rfl (mvL rfl ?_)
        refine GoL.stepS rfl rfl (r_lenSlice tt55 rfl ?_)
        refine GoL.stepS rfl rfl (r_lssF rfl rfl (by first | omega | (dsimp only; omega)) ?_)
        refine GoL.stepS rfl rfl (mvB rfl ?_)
        refine GoL.stepYS rfl rfl rfl (mvI rfl ?_)
        refine GoL.stepYS rfl rfl rfl (mvL rfl ?_)
        refine GoL.stepYS rfl rfl rfl (r_lenSlice tt55 rfl ?_)
        refine GoL.stepYS rfl rfl rfl (r_lssF rfl rfl (by first | omega | (dsimp only; omega)) ?_)
        refine GoL.stepS rfl rfl (r_pickF (v := .bool false) rfl rfl ?_)
        refine GoL.stepS rfl rfl (mvB rfl ?_)
        refine GoL.stepYS rfl rfl rfl (mvI rfl ?_)
        refine GoL.stepYS rfl rfl rfl (r_gtrT rfl rfl (by dsimp only; omega) ?_)
        refine GoL.stepS rfl rfl (r_pickF (v := .bool true) rfl rfl ?_)
        refine GoL.nil ?_
        refine Goes.condT rfl (rfl) ?_
        refine Goes.skip (Goes.seq (Goes.block (Goes.seq (Goes.region ?_))))
        refine GoL.stepS rfl rfl (mvL rfl ?_)
        refine GoL.stepS rfl rfl (mvI rfl ?_)
        refine GoL.stepS rfl rfl (r_call cc101 (rat_spec ha i) H ?_); clear H; rintro v27 M27 L27 w hM27 ⟨rfl, rfl, rfl⟩ H
        refine GoL.stepS rfl rfl (mvL rfl ?_)
        refine GoL.stepS rfl rfl (mvI rfl ?_)
        refine GoL.stepS rfl rfl (r_call cc101 (rat_spec hb i) H ?_); clear H; rintro v30 M30 L30 w hM30 ⟨rfl, rfl, rfl⟩ H
        refine GoL.stepS rfl rfl (r_addR (((dgs x).getD i 0 + (dgs y).getD i 0 : Nat) : Int) rfl rfl (by first | omega | (dsimp only; omega)) (by first | omega | (dsimp only; omega)) (by first | omega | (dsimp only; omega)) ?_)
        refine GoL.stepS rfl rfl (mvI rfl ?_)
        refine GoL.stepS rfl rfl (r_addR (((dgs x).getD i 0 + (dgs y).getD i 0 + cy : Nat) : Int) rfl rfl (by dsimp only; omega) (by first | omega | (dsimp only; omega)) (by first | omega | (dsimp only; omega)) ?_)
        refine GoL.stepS rfl rfl (asI rfl ?_)
        refine GoL.nil ?_
        refine Goes.seq (Goes.region ?_)
        refine GoL.stepS rfl rfl (r_mv (v := v) rfl ?_)
        refine GoL.stepS rfl rfl (mvI rfl ?_)
        refine GoL.stepS rfl rfl (r_remR ((((dgs x).getD i 0 + (dgs y).getD i 0 + cy) % 10 : Nat) : Int) rfl rfl (by first | omega | (dsimp only; omega)) (by first | omega | (dsimp only; omega)) (by first | omega | (dsimp only; omega)) ?_)
        refine GoL.stepS rfl rfl (r_bsl (cells := [.int _ _]) tt55 tt3 rfl (by rfl) H ?_); clear H; intro b37 w hb37 H
        refine GoL.stepS rfl rfl (r_appendO (m := 1) tt55 tt3 tt55 (by intro k hk; cases hk) rfl rfl rfl H (.tail .head) .head rfl rfl rfl rfl (by rw [List.length_map]; omega) ?_); clear H; intro v38 w H
        refine GoL.stepS rfl rfl (r_as (v := v38) rfl ?_)
        refine GoL.nil ?_
        refine Goes.region ?_
        refine GoL.stepS rfl rfl (mvI rfl ?_)
        refine GoL.stepS rfl rfl (r_quoI rfl rfl (by first | omega | (dsimp only; omega)) (by first | omega | (dsimp only; omega)) (by first | omega | (dsimp only; omega)) ?_)
        refine GoL.stepS rfl rfl (asI rfl ?_)
        refine GoL.nil ?_
        refine Goes.inBlock (Goes.region ?_)
        refine GoL.stepS rfl rfl (mvI rfl ?_)
        first | refine GoL.stepS rfl rfl (r_addI rfl rfl (by first | omega | (dsimp only; omega)) (by first | omega | (dsimp only; omega)) ?_) | refine GoL.stepS rfl rfl (r_add rfl rfl ?_)
        refine GoL.stepS rfl rfl (asI rfl ?_)
        refine GoL.nil ?_
        refine again (i + 1, ((dgs x).getD i 0 + (dgs y).getD i 0 + cy) / 10, o ++ [((dgs x).getD i 0 + (dgs y).getD i 0 + cy) % 10], v38) _ _ ⟨rfl, rfl, rfl, trivial⟩ (.of_strip (by kernel_rfl)) ⟨by dsimp only; omega, by dsimp only; rw [List.length_append]; simp; omega, ?_, ?_, ?_, ?_⟩ (by dsimp only; omega)
        · intro z hz
          rcases List.mem_append.1 hz with hz | hz
          · exact hod z hz
          · have : z = _ := List.mem_singleton.1 hz
            omega
        · dsimp only; exact hnext
        · dsimp only
          rw [dv_snoc, dv_take_succ, dv_take_succ, hol, Nat.pow_succ, Nat.mul_assoc, Nat.add_assoc, ← Nat.mul_add]
          have h1 : ((dgs x).getD i 0 + (dgs y).getD i 0 + cy) % 10 + 10 * (((dgs x).getD i 0 + (dgs y).getD i 0 + cy) / 10) = (dgs x).getD i 0 + (dgs y).getD i 0 + cy := by omega
          rw [h1, Nat.mul_add, Nat.mul_add]; omega
        · dsimp only; rw [iv_map_append]; exact H.right (L := [_])
      · refine Goes.seq (Goes.seq (Goes.region ?_))
        refine GoL.stepS rfl rfl (mvI rfl ?_)
        refine GoL.stepS rfl rfl (mvL rfl ?_)
        refine GoL.stepS rfl rfl (r_lenSlice tt55 rfl ?_)
        refine GoL.stepS rfl rfl (r_lssF rfl rfl (by first | omega | (dsimp only; omega)) ?_)
        refine GoL.stepS rfl rfl (mvB rfl ?_)
        refine GoL.stepYS rfl rfl rfl (mvI rfl ?_)
        refine GoL.stepYS rfl rfl rfl (mvL rfl ?_)
        refine GoL.stepYS rfl rfl rfl (r_lenSlice tt55 rfl ?_)
        refine GoL.stepYS rfl rfl rfl (r_lssF rfl rfl (by first | omega | (dsimp only; omega)) ?_)
        refine GoL.stepS rfl rfl (r_pickF (v := .bool false) rfl rfl ?_)
        refine GoL.stepS rfl rfl (mvB rfl ?_)
        refine GoL.stepYS rfl rfl rfl (mvI rfl ?_)
        refine GoL.stepYS rfl rfl rfl (r_gtrF rfl rfl (by dsimp only; omega) ?_)
        refine GoL.stepS rfl rfl (r_pickF (v := .bool false) rfl rfl ?_)
        refine GoL.nil ?_
        refine Goes.condF rfl (rfl) ?_
        refine Goes.exit rfl (Goes.seq (Goes.region ?_))
        refine GoL.stepS rfl rfl (r_mv (v := v) rfl ?_)
        obtain ⟨M', a1, k1, c1, rfl, hll, hk1, hr, hle, H⟩ := H.freezeSl .head
        have hcy0 : cy = 0 := by omega
        subst hcy0
        have hsum : dv o = x + y := by
          rw [List.take_of_length_le (by omega), List.take_of_length_le (by omega), dv_dgs, dv_dgs] at hs
          omega
        refine GoL.stepS rfl rfl (r_call cc94 (rtrim_spec (.of_sl hll hk1 (by first | omega | (dsimp only; omega)) hod hr)) H ?_); clear H; rintro v42 M42 L42 w hM42 ⟨rfl, rfl, r42⟩ H
        rw [hsum] at r42
        obtain ⟨a42, n42, c42, rfl, r42⟩ := r42
        refine GoL.stepS rfl rfl (asL rfl ?_)
        refine GoL.nil ?_
        exact Goes.ret (ret1 (v := .slice _ _ _) rfl rfl rfl H.nil ⟨rfl, _, _, _, rfl, r42⟩)

end Go.Proofs.YtlcpdkckldlceaaGreatDoor
namespace Go.Proofs.YtlcpdkckldlceaaGreatDoor
open Go.Sx Go.Nat32 Go.Dec
attribute [local irreducible] pt sl itc
set_option maxRecDepth 100000
set_option linter.unusedVariables false
set_option linter.unusedSimpArgs false

theorem rmul_spec {M : RO} {u v : Value} {x y k l : Nat} (hx : RefN M u x) (hy : RefN M v y) (lx : x < 10 ^ k) (ly : y < 10 ^ l) (hk : k ≤ 1000000) (hl : l ≤ 1000000) :
    Sp Tryz.prog 70 [u, v] M [] fun r M' L' => L' = [] ∧ RefN M' r (x * y) := by
  obtain ⟨a, n, c, rfl, ha⟩ := hx
  obtain ⟨a', n', c', rfl, hb⟩ := hy
  have hlx := dgs_len lx
  have hly := dgs_len ly
  have hla := ha.len
  have hlb := hb.len
  refine Sp.enter (n := 60) Tryz.func70 rfl Tryz.ntmps70 rfl ?_
  intro E hE H
  subst hE
  refine Goes.seq (Goes.region ?_)
  refine GoL.stepS rfl rfl (asL rfl ?_)
  refine GoL.nil ?_
  refine Goes.seq (Goes.region ?_)
  refine GoL.stepS rfl rfl (mvL rfl ?_)
  refine GoL.stepS rfl rfl (r_lenSlice tt55 rfl ?_)
  refine GoL.stepS rfl rfl (mvL rfl ?_)
  refine GoL.stepS rfl rfl (r_lenSlice tt55 rfl ?_)
  refine GoL.stepS rfl rfl (r_addR ((n + n' : Nat) : Int) rfl rfl (by first | omega | (dsimp only; omega)) (by first | omega | (dsimp only; omega)) (by first | omega | (dsimp only; omega)) ?_)
  refine GoL.stepS rfl rfl (r_mkS1 (z := iv 0) (l := n + n') (cp := n + n') tt55 tt3 rfl rfl rfl rfl rfl (Nat.le_refl _) rfl (by first | omega | (dsimp only; omega)) H ?_); clear H; intro b15 w hb15 H
  refine GoL.stepS rfl rfl (asL rfl ?_)
  refine GoL.nil ?_
  refine Goes.seq (Goes.seq (Goes.region ?_))
  refine GoL.stepS rfl rfl (asI rfl ?_)
  refine GoL.nil ?_
  refine Goes.block ?_
  refine Goes.loopS (6 :: 7 :: 8 :: 9 :: 16 :: 17 :: 18 :: 19 :: 20 :: 21 :: 22 :: 23 :: 24 :: 25 :: 26 :: 27 :: 28 :: 29 :: 30 :: 31 :: 32 :: 33 :: 34 :: 35 :: 36 :: 37 :: 38 :: 39 :: 40 :: 41 :: 42 :: 43 :: 44 :: 45 :: 46 :: 47 :: 48 :: 49 :: 50 :: 51 :: 52 :: 53 :: 54 :: 55 :: 56 :: 57 :: []) (fun (s : Nat × List Nat) => [(6, .int .i64 (s.1 : Int))]) (fun s w => s.1 ≤ n ∧ s.2.length = n + n' ∧ isD s.2 ∧ (∀ j, s.1 + n' ≤ j → s.2.getD j 0 = 0) ∧ dv s.2 = dv ((dgs x).take s.1) * y ∧ Hp E E.M [pt b15 (.cells (s.2.map iv).toArray 3 (0, 0))] w) (fun s => n - s.1) (0, List.replicate (n + n') 0) ⟨rfl, trivial⟩ ⟨Nat.zero_le _, by simp, (fun x hx => by have := List.eq_of_mem_replicate hx; omega), (fun j _ => by rw [List.getD_eq_getElem?_getD, List.getElem?_replicate]; split <;> rfl), by rw [dv_replicate]; simp [dv], ?_⟩ ?_
  · rw [List.map_replicate]; exact H
  clear H
  rintro ⟨i, o⟩ f w ⟨hi, hol, hod, hoz, hs, H⟩ again
  dsimp only at hi hol hod hoz hs H
  have da := isD_getD (isD_dgs x) i
  refine Goes.seq (Goes.seq (Goes.region ?_))
  refine GoL.stepS rfl rfl (mvI rfl ?_)
  refine GoL.stepS rfl rfl (mvL rfl ?_)
  refine GoL.stepS rfl rfl (r_lenSlice tt55 rfl ?_)
  refine GoL.stepS rfl rfl (r_lss rfl rfl ?_)
  refine GoL.nil ?_
  refine Goes.cond rfl (fun hc => ?_) (fun hc => ?_)
  · have hin : i < n := by have : (i : Int) < (n : Int) := by simpa using hc
                           omega
    obtain ⟨ba, oa, csa, ea, za, rfl, hMa, hva⟩ := ha.at hin
    refine Goes.skip (Goes.seq (Goes.block (Goes.seq (Goes.region ?_))))
    refine GoL.stepS rfl rfl (asI rfl ?_)
    refine GoL.nil ?_
    refine Goes.seq (Goes.region ?_)
    refine GoL.stepS rfl rfl (asI rfl ?_)
    refine GoL.nil ?_
    refine Goes.block ?_
    refine Goes.loopS (7 :: 8 :: 9 :: 22 :: 23 :: 24 :: 25 :: 26 :: 27 :: 28 :: 29 :: 30 :: 31 :: 32 :: 33 :: 34 :: 35 :: 36 :: 37 :: 38 :: 39 :: 40 :: 41 :: 42 :: 43 :: 44 :: 45 :: 46 :: 47 :: 48 :: 49 :: 50 :: 51 :: 52 :: 53 :: 54 :: 55 :: 56 :: 57 :: []) (fun (s : Nat × Nat × List Nat) => [(8, .int .i64 (s.1 : Int)), (7, .int .i64 (s.2.1 : Int))]) (fun s w => s.2.1 ≤ 9 ∧ s.2.2.length = n + n' ∧ isD s.2.2 ∧ (s.1 ≤ n' ∨ s.1 = n' + 1 ∧ s.2.1 = 0) ∧ (∀ j, i + n' ≤ j → i + s.1 ≤ j → s.2.2.getD j 0 = 0) ∧ dv s.2.2 + 10 ^ (i + s.1) * s.2.1 = dv ((dgs x).take i) * y + 10 ^ i * (dgs x).getD i 0 * dv ((dgs y).take s.1) ∧ Hp E E.M [pt b15 (.cells (s.2.2.map iv).toArray 3 (0, 0))] w) (fun s => n' + 2 - s.1) (0, 0, o) ⟨rfl, rfl, trivial⟩ ⟨Nat.zero_le _, hol, hod, .inl (Nat.zero_le _), (fun j h1 _ => hoz j h1), by simp [dv, hs], H⟩ ?_
    clear H
    rintro ⟨k, cy, o⟩ f1 w ⟨hcy, hol, hod, hk, hoz, hs, H⟩ again2
    dsimp only at hcy hol hod hk hoz hs H
    have db := isD_getD (isD_dgs y) k
    have do1 := isD_getD hod (i + k)
    have hp1 : (dgs x).getD i 0 * (dgs y).getD k 0 ≤ 9 * 9 := Nat.mul_le_mul (by omega) (by omega)
    by_cases h1 : k < n'
    · have hnext : k + 1 ≤ n' ∨ k + 1 = n' + 1 ∧ (o.getD (i + k) 0 + (dgs x).getD i 0 * (dgs y).getD k 0 + cy) / 10 = 0 := by omega
      refine Goes.seq (Goes.seq (Goes.region ?_))
      refine GoL.stepS rfl rfl (mvI rfl ?_)
      refine GoL.stepS rfl rfl (mvL rfl ?_)
      refine GoL.stepS rfl rfl (r_lenSlice tt55 rfl ?_)
      refine GoL.stepS rfl rfl (r_lssT rfl rfl (by first | omega | (dsimp only; omega)) ?_)
      refine GoL.stepS rfl rfl (mvB rfl ?_)
      refine GoL.stepNS rfl rfl rfl ?_
      refine GoL.stepNS rfl rfl rfl ?_
      refine GoL.stepS rfl rfl (r_pickT (v := .bool true) rfl rfl ?_)
      refine GoL.nil ?_
      refine Goes.condT rfl (rfl) ?_
      have hlen : i + k < o.length := by omega
      refine Goes.skip (Goes.seq (Goes.block (Goes.seq ?_)))
      refine Goes.regionD0 mixed (by kernel_rfl) 19 H ?_
      refine Ver.read (v := .slice _ _ _) 0 rfl (by kernel_rfl) (fun M' L' w hM H => mvL rfl ⟨rfl, rfl⟩) ?_
      refine Ver.read (v := .int _ _) 1 rfl (by kernel_rfl) (fun M' L' w hM H => mvI rfl ⟨rfl, rfl⟩) ?_
      refine Ver.read (v := .int _ _) 2 rfl (by kernel_rfl) (fun M' L' w hM H => mvI rfl ⟨rfl, rfl⟩) ?_
      refine Ver.read (v := .int _ _) 3 rfl (by kernel_rfl) (fun M' L' w hM H => r_addR ((i + k : Nat) : Int) rfl rfl (by first | omega | (dsimp only; omega)) (by first | omega | (dsimp only; omega)) (by first | omega | (dsimp only; omega)) ⟨rfl, rfl⟩) ?_
      refine Ver.read (v := .pointer _) 4 rfl (by kernel_rfl) (fun M' L' w hM H => r_indexAddrN tt55 tt3 rfl rfl (by first | omega | (dsimp only; omega)) ⟨rfl, rfl⟩) ?_
      refine Ver.read (v := (.int .i64 _)) 5 rfl (by kernel_rfl) (fun M' L' w hM H => ldI tt3 rfl (H.own .head) (by show (o.map iv).toArray[0 + (i + k) * 1]? = _; rw [Nat.mul_one, Nat.zero_add]; exact iv_get o hlen) ⟨rfl, rfl⟩) ?_
      refine Ver.read (v := .slice _ _ _) 6 rfl (by kernel_rfl) (fun M' L' w hM H => mvL rfl ⟨rfl, rfl⟩) ?_
      refine Ver.read (v := .int _ _) 7 rfl (by kernel_rfl) (fun M' L' w hM H => mvI rfl ⟨rfl, rfl⟩) ?_
      refine Ver.read (v := .pointer _) 8 rfl (by kernel_rfl) (fun M' L' w hM H => r_indexAddrN tt55 tt3 rfl rfl (by first | omega | (dsimp only; omega)) ⟨rfl, rfl⟩) ?_
      refine Ver.read (v := .int _ _) 9 rfl (by kernel_rfl) (fun M' L' w hM H => ldI tt3 rfl (H.ro (hM _ _ hMa)) (by rw [Nat.mul_one]; exact hva) ⟨rfl, rfl⟩) ?_
      refine Ver.read (v := .slice _ _ _) 10 rfl (by kernel_rfl) (fun M' L' w hM H => mvL rfl ⟨rfl, rfl⟩) ?_
      refine Ver.read (v := .int _ _) 11 rfl (by kernel_rfl) (fun M' L' w hM H => mvI rfl ⟨rfl, rfl⟩) ?_
      refine Ver.read (v := .int _ _) 15 rfl (by kernel_rfl) (fun M' L' w hM H => mvI rfl ⟨rfl, rfl⟩) ?_
      refine Ver.next0 12 (by kernel_rfl) rfl (by kernel_rfl) ?_
      clear H; intro w H
      refine r_call cc101 (rat_spec hb k) H ?_
      clear H; rintro v44 M44 L44 w hM44 ⟨rfl, rfl, rfl⟩ H
      refine ⟨_, hM44, H, ?_⟩
      refine Ver.read (v := .int _ _) 13 rfl (by kernel_rfl) (fun M' L' w hM H => r_mulR (((dgs x).getD i 0 * (dgs y).getD k 0 : Nat) : Int) rfl rfl (by simp) (by first | omega | (dsimp only; omega)) (by first | omega | (dsimp only; omega)) ⟨rfl, rfl⟩) ?_
      refine Ver.read (v := .int _ _) 14 rfl (by kernel_rfl) (fun M' L' w hM H => r_addR ((o.getD (i + k) 0 + (dgs x).getD i 0 * (dgs y).getD k 0 : Nat) : Int) rfl rfl (by first | omega | (dsimp only; omega)) (by first | omega | (dsimp only; omega)) (by first | omega | (dsimp only; omega)) ⟨rfl, rfl⟩) ?_
      refine Ver.read (v := .int _ _) 16 rfl (by kernel_rfl) (fun M' L' w hM H => r_addR ((o.getD (i + k) 0 + (dgs x).getD i 0 * (dgs y).getD k 0 + cy : Nat) : Int) rfl rfl (by first | omega | (dsimp only; omega)) (by first | omega | (dsimp only; omega)) (by first | omega | (dsimp only; omega)) ⟨rfl, rfl⟩) ?_
      refine Ver.read (v := .int _ _) 17 rfl (by kernel_rfl) (fun M' L' w hM H => asI rfl ⟨rfl, rfl⟩) ?_
      refine Ver.fin0 (by kernel_rfl) ?_
      clear H; intro w H
      refine Goes.seq (Goes.region ?_)
      refine GoL.stepS rfl rfl (mvL rfl ?_)
      refine GoL.stepS rfl rfl (mvI rfl ?_)
      refine GoL.stepS rfl rfl (mvI rfl ?_)
      refine GoL.stepS rfl rfl (r_addR ((i + k : Nat) : Int) rfl rfl (by first | omega | (dsimp only; omega)) (by first | omega | (dsimp only; omega)) (by first | omega | (dsimp only; omega)) ?_)
      refine GoL.stepS rfl rfl (mvI rfl ?_)
      refine GoL.stepS rfl rfl (r_remR (((o.getD (i + k) 0 + (dgs x).getD i 0 * (dgs y).getD k 0 + cy) % 10 : Nat) : Int) rfl rfl (by first | omega | (dsimp only; omega)) (by first | omega | (dsimp only; omega)) (by first | omega | (dsimp only; omega)) ?_)
      refine GoL.stepS rfl rfl (r_indexAddrN tt55 tt3 rfl rfl (by first | omega | (dsimp only; omega)) ?_)
      refine GoL.step0 rfl (r_store1 tt3 rfl rfl H .head rfl (by rw [List.size_toArray, List.length_map]; omega) ?_); clear H; intro w H
      refine GoL.nil ?_
      refine Goes.region ?_
      refine GoL.stepS rfl rfl (mvI rfl ?_)
      refine GoL.stepS rfl rfl (r_quoI rfl rfl (by first | omega | (dsimp only; omega)) (by first | omega | (dsimp only; omega)) (by first | omega | (dsimp only; omega)) ?_)
      refine GoL.stepS rfl rfl (asI rfl ?_)
      refine GoL.nil ?_
      refine Goes.inBlock (Goes.region ?_)
      refine GoL.stepS rfl rfl (mvI rfl ?_)
      first | refine GoL.stepS rfl rfl (r_addI rfl rfl (by first | omega | (dsimp only; omega)) (by first | omega | (dsimp only; omega)) ?_) | refine GoL.stepS rfl rfl (r_add rfl rfl ?_)
      refine GoL.stepS rfl rfl (asI rfl ?_)
      refine GoL.nil ?_
      refine again2 (k + 1, (o.getD (i + k) 0 + (dgs x).getD i 0 * (dgs y).getD k 0 + cy) / 10, o.set (i + k) ((o.getD (i + k) 0 + (dgs x).getD i 0 * (dgs y).getD k 0 + cy) % 10)) _ _ ⟨rfl, rfl, trivial⟩ (.of_strip (by kernel_rfl)) ⟨by first | omega | (dsimp only; omega), by dsimp only; rw [List.length_set]; exact hol, isD_set hod _ (by omega), hnext, ?_, ?_, ?_⟩ (by first | omega | (dsimp only; omega))
      · intro j hj1 hj2
        have hne : i + k ≠ j := by omega
        show (o.set (i + k) _).getD j 0 = 0
        rw [List.getD_eq_getElem?_getD, List.getElem?_set_ne hne, ← List.getD_eq_getElem?_getD]
        exact hoz j hj1 (by omega)
      · dsimp only
        rw [dv_take_succ, show i + (k + 1) = i + k + 1 from rfl, Nat.pow_succ]
        exact mul_step hs (dv_set o (i + k) _ hlen) rfl rfl (Nat.pow_add 10 i k)
      · dsimp only
        rw [← iv_set]
        rw [Nat.mul_one, Nat.zero_add] at H
        exact H
    · by_cases h3 : 0 < cy
      · have hkn : k = n' := by omega
        have e1 : (dgs y).getD k 0 = 0 := by rw [List.getD_eq_getElem?_getD, List.getElem?_eq_none (by omega)]; rfl
        have e2 : o.getD (i + k) 0 = 0 := hoz _ (by omega) (Nat.le_refl _)
        have hnext : k + 1 ≤ n' ∨ k + 1 = n' + 1 ∧ (o.getD (i + k) 0 + (dgs x).getD i 0 * (dgs y).getD k 0 + cy) / 10 = 0 := by
          right
          rw [e1, e2, Nat.mul_zero]; omega
        refine Goes.seq (Goes.seq (Goes.region ?_))
        refine GoL.stepS rfl rfl (mvI rfl ?_)
        refine GoL.stepS rfl rfl (mvL rfl ?_)
        refine GoL.stepS rfl rfl (r_lenSlice tt55 rfl ?_)
        refine GoL.stepS rfl rfl (r_lssF rfl rfl (by first | omega | (dsimp only; omega)) ?_)
        refine GoL.stepS rfl rfl (mvB rfl ?_)
        refine GoL.stepYS rfl rfl rfl (mvI rfl ?_)
        refine GoL.stepYS rfl rfl rfl (r_gtrT rfl rfl (by first | omega | (dsimp only; omega)) ?_)
        refine GoL.stepS rfl rfl (r_pickF (v := .bool true) rfl rfl ?_)
        refine GoL.nil ?_
        refine Goes.condT rfl (rfl) ?_
        have hlen : i + k < o.length := by omega
        refine Goes.skip (Goes.seq (Goes.block (Goes.seq ?_)))
        refine Goes.regionD0 mixed (by kernel_rfl) 19 H ?_
        refine Ver.read (v := .slice _ _ _) 0 rfl (by kernel_rfl) (fun M' L' w hM H => mvL rfl ⟨rfl, rfl⟩) ?_
        refine Ver.read (v := .int _ _) 1 rfl (by kernel_rfl) (fun M' L' w hM H => mvI rfl ⟨rfl, rfl⟩) ?_
        refine Ver.read (v := .int _ _) 2 rfl (by kernel_rfl) (fun M' L' w hM H => mvI rfl ⟨rfl, rfl⟩) ?_
        refine Ver.read (v := .int _ _) 3 rfl (by kernel_rfl) (fun M' L' w hM H => r_addR ((i + k : Nat) : Int) rfl rfl (by first | omega | (dsimp only; omega)) (by first | omega | (dsimp only; omega)) (by first | omega | (dsimp only; omega)) ⟨rfl, rfl⟩) ?_
        refine Ver.read (v := .pointer _) 4 rfl (by kernel_rfl) (fun M' L' w hM H => r_indexAddrN tt55 tt3 rfl rfl (by first | omega | (dsimp only; omega)) ⟨rfl, rfl⟩) ?_
        refine Ver.read (v := (.int .i64 _)) 5 rfl (by kernel_rfl) (fun M' L' w hM H => ldI tt3 rfl (H.own .head) (by show (o.map iv).toArray[0 + (i + k) * 1]? = _; rw [Nat.mul_one, Nat.zero_add]; exact iv_get o hlen) ⟨rfl, rfl⟩) ?_
        refine Ver.read (v := .slice _ _ _) 6 rfl (by kernel_rfl) (fun M' L' w hM H => mvL rfl ⟨rfl, rfl⟩) ?_
        refine Ver.read (v := .int _ _) 7 rfl (by kernel_rfl) (fun M' L' w hM H => mvI rfl ⟨rfl, rfl⟩) ?_
        refine Ver.read (v := .pointer _) 8 rfl (by kernel_rfl) (fun M' L' w hM H => r_indexAddrN tt55 tt3 rfl rfl (by first | omega | (dsimp only; omega)) ⟨rfl, rfl⟩) ?_
        refine Ver.read (v := .int _ _) 9 rfl (by kernel_rfl) (fun M' L' w hM H => ldI tt3 rfl (H.ro (hM _ _ hMa)) (by rw [Nat.mul_one]; exact hva) ⟨rfl, rfl⟩) ?_
        refine Ver.read (v := .slice _ _ _) 10 rfl (by kernel_rfl) (fun M' L' w hM H => mvL rfl ⟨rfl, rfl⟩) ?_
        refine Ver.read (v := .int _ _) 11 rfl (by kernel_rfl) (fun M' L' w hM H => mvI rfl ⟨rfl, rfl⟩) ?_
        refine Ver.read (v := .int _ _) 15 rfl (by kernel_rfl) (fun M' L' w hM H => mvI rfl ⟨rfl, rfl⟩) ?_
        refine Ver.next0 12 (by kernel_rfl) rfl (by kernel_rfl) ?_
        clear H; intro w H
        refine r_call cc101 (rat_spec hb k) H ?_
        clear H; rintro v44 M44 L44 w hM44 ⟨rfl, rfl, rfl⟩ H
        refine ⟨_, hM44, H, ?_⟩
        refine Ver.read (v := .int _ _) 13 rfl (by kernel_rfl) (fun M' L' w hM H => r_mulR (((dgs x).getD i 0 * (dgs y).getD k 0 : Nat) : Int) rfl rfl (by simp) (by first | omega | (dsimp only; omega)) (by first | omega | (dsimp only; omega)) ⟨rfl, rfl⟩) ?_
        refine Ver.read (v := .int _ _) 14 rfl (by kernel_rfl) (fun M' L' w hM H => r_addR ((o.getD (i + k) 0 + (dgs x).getD i 0 * (dgs y).getD k 0 : Nat) : Int) rfl rfl (by first | omega | (dsimp only; omega)) (by first | omega | (dsimp only; omega)) (by first | omega | (dsimp only; omega)) ⟨rfl, rfl⟩) ?_
        refine Ver.read (v := .int _ _) 16 rfl (by kernel_rfl) (fun M' L' w hM H => r_addR ((o.getD (i + k) 0 + (dgs x).getD i 0 * (dgs y).getD k 0 + cy : Nat) : Int) rfl rfl (by first | omega | (dsimp only; omega)) (by first | omega | (dsimp only; omega)) (by first | omega | (dsimp only; omega)) ⟨rfl, rfl⟩) ?_
        refine Ver.read (v := .int _ _) 17 rfl (by kernel_rfl) (fun M' L' w hM H => asI rfl ⟨rfl, rfl⟩) ?_
        refine Ver.fin0 (by kernel_rfl) ?_
        clear H; intro w H
        refine Goes.seq (Goes.region ?_)
        refine GoL.stepS rfl rfl (mvL rfl ?_)
        refine GoL.stepS rfl rfl (mvI rfl ?_)
        refine GoL.stepS rfl rfl (mvI rfl ?_)
        refine GoL.stepS rfl rfl (r_addR ((i + k : Nat) : Int) rfl rfl (by first | omega | (dsimp only; omega)) (by first | omega | (dsimp only; omega)) (by first | omega | (dsimp only; omega)) ?_)
        refine GoL.stepS rfl rfl (mvI rfl ?_)
        refine GoL.stepS rfl rfl (r_remR (((o.getD (i + k) 0 + (dgs x).getD i 0 * (dgs y).getD k 0 + cy) % 10 : Nat) : Int) rfl rfl (by first | omega | (dsimp only; omega)) (by first | omega | (dsimp only; omega)) (by first | omega | (dsimp only; omega)) ?_)
        refine GoL.stepS rfl rfl (r_indexAddrN tt55 tt3 rfl rfl (by first | omega | (dsimp only; omega)) ?_)
        refine GoL.step0 rfl (r_store1 tt3 rfl rfl H .head rfl (by rw [List.size_toArray, List.length_map]; omega) ?_); clear H; intro w H
        refine GoL.nil ?_
        refine Goes.region ?_
        refine GoL.stepS rfl rfl (mvI rfl ?_)
        refine GoL.stepS rfl rfl (r_quoI rfl rfl (by first | omega | (dsimp only; omega)) (by first | omega | (dsimp only; omega)) (by first | omega | (dsimp only; omega)) ?_)
        refine GoL.stepS rfl rfl (asI rfl ?_)
        refine GoL.nil ?_
        refine Goes.inBlock (Goes.region ?_)
        refine GoL.stepS rfl rfl (mvI rfl ?_)
        first | refine GoL.stepS rfl rfl (r_addI rfl rfl (by first | omega | (dsimp only; omega)) (by first | omega | (dsimp only; omega)) ?_) | refine GoL.stepS rfl rfl (r_add rfl rfl ?_)
        refine GoL.stepS rfl rfl (asI rfl ?_)
        refine GoL.nil ?_
        refine again2 (k + 1, (o.getD (i + k) 0 + (dgs x).getD i 0 * (dgs y).getD k 0 + cy) / 10, o.set (i + k) ((o.getD (i + k) 0 + (dgs x).getD i 0 * (dgs y).getD k 0 + cy) % 10)) _ _ ⟨rfl, rfl, trivial⟩ (.of_strip (by kernel_rfl)) ⟨by first | omega | (dsimp only; omega), by dsimp only; rw [List.length_set]; exact hol, isD_set hod _ (by omega), hnext, ?_, ?_, ?_⟩ (by first | omega | (dsimp only; omega))
        · intro j hj1 hj2
          have hne : i + k ≠ j := by omega
          show (o.set (i + k) _).getD j 0 = 0
          rw [List.getD_eq_getElem?_getD, List.getElem?_set_ne hne, ← List.getD_eq_getElem?_getD]
          exact hoz j hj1 (by omega)
        · dsimp only
          rw [dv_take_succ, show i + (k + 1) = i + k + 1 from rfl, Nat.pow_succ]
          exact mul_step hs (dv_set o (i + k) _ hlen) rfl rfl (Nat.pow_add 10 i k)
        · dsimp only
          rw [← iv_set]
          rw [Nat.mul_one, Nat.zero_add] at H
          exact H
      · refine Goes.seq (Goes.seq (Goes.region ?_))
        refine GoL.stepS rfl rfl (mvI rfl ?_)
        refine GoL.stepS rfl rfl (mvL rfl ?_)
        refine GoL.stepS rfl rfl (r_lenSlice tt55 rfl ?_)
        refine GoL.stepS rfl rfl (r_lssF rfl rfl (by first | omega | (dsimp only; omega)) ?_)
        refine GoL.stepS rfl rfl (mvB rfl ?_)
        refine GoL.stepYS rfl rfl rfl (mvI rfl ?_)
        refine GoL.stepYS rfl rfl rfl (r_gtrF rfl rfl (by first | omega | (dsimp only; omega)) ?_)
        refine GoL.stepS rfl rfl (r_pickF (v := .bool false) rfl rfl ?_)
        refine GoL.nil ?_
        refine Goes.condF rfl (rfl) ?_
        refine Goes.exit rfl (Goes.inBlock (Goes.region ?_))
        refine GoL.stepS rfl rfl (mvI rfl ?_)
        first | refine GoL.stepS rfl rfl (r_addI rfl rfl (by first | omega | (dsimp only; omega)) (by first | omega | (dsimp only; omega)) ?_) | refine GoL.stepS rfl rfl (r_add rfl rfl ?_)
        refine GoL.stepS rfl rfl (asI rfl ?_)
        refine GoL.nil ?_
        refine again (i + 1, o) _ _ ⟨rfl, trivial⟩ (.of_strip (by kernel_rfl)) ⟨by first | omega | (dsimp only; omega), hol, hod, ?_, ?_, H⟩ (by first | omega | (dsimp only; omega))
        · intro j hj
          exact hoz j (by dsimp only at hj; omega) (by dsimp only at hj; omega)
        · dsimp only
          have hcy0 : cy = 0 := by omega
          rw [hcy0, Nat.mul_zero, Nat.add_zero, List.take_of_length_le (l := dgs y) (by omega), dv_dgs] at hs
          rw [dv_take_succ, Nat.add_mul]; exact hs
  · have hin : i = n := by have : ¬ (i : Int) < (n : Int) := by simpa using hc
                           omega
    subst hin
    rw [List.take_of_length_le (by omega), dv_dgs] at hs
    obtain ⟨M', hM15, hle, H⟩ := H.freezeX (i := 0) .head
    have hrow : Row10 M' (some ⟨b15, 0, none⟩) (i + n') (i + n') o := ⟨hol.symm, Nat.le_refl _, by omega, hod, .inr ⟨b15, 0, _, _, _, rfl, hM15, by simp, by simp [List.take_of_length_le]⟩⟩
    refine Goes.exit rfl (Goes.seq (Goes.region ?_))
    refine GoL.stepS rfl rfl (mvL rfl ?_)
    refine GoL.stepS rfl rfl (r_call cc94 (rtrim_spec hrow) H ?_); clear H; rintro v59 M59 L59 w hM59 ⟨rfl, rfl, r59⟩ H
    rw [hs] at r59
    obtain ⟨a59, n59, c59, rfl, r59⟩ := r59
    refine GoL.stepS rfl rfl (asL rfl ?_)
    refine GoL.nil ?_
    exact Goes.ret (ret1 (v := .slice _ _ _) rfl rfl rfl H.nil ⟨rfl, _, _, _, rfl, r59⟩)

theorem rpow_spec {M : RO} {u : Value} {x k m : Nat} (hx : RefN M u x) (lx : x < 10 ^ k) (hk : k * m + 1 ≤ 1000000) (hm : m ≤ 4000) :
    Sp Tryz.prog 79 [u, .int .i64 (m : Int)] M [] fun r M' L' => L' = [] ∧ RefN M' r (x ^ m) := by
  obtain ⟨a, n, c, rfl, ha⟩ := hx
  refine Sp.enter (n := 17) Tryz.func79 rfl Tryz.ntmps79 rfl ?_
  intro E hE H
  subst hE
  refine Goes.seq (Goes.region ?_)
  refine GoL.stepS rfl rfl (asL rfl ?_)
  refine GoL.nil ?_
  refine Goes.seq (Goes.region ?_)
  refine GoL.stepS rfl rfl (r_call cc30 (rof_spec (x := 1) (by first | omega | (dsimp only; omega))) H ?_); clear H; rintro v7 M7 L7 w hM7 ⟨rfl, a7, n7, c7, rfl, h7⟩ H
  refine GoL.stepS rfl rfl (asL rfl ?_)
  refine GoL.nil ?_
  refine Goes.seq (Goes.seq (Goes.region ?_))
  refine GoL.stepS rfl rfl (asI rfl ?_)
  refine GoL.nil ?_
  refine Goes.block ?_
  refine Goes.loopS [5, 6, 8, 9, 10, 11, 12, 13, 14, 15] (fun (s : Nat × (Option Addr × Nat × Nat) × RO) => [(6, .int .i64 (s.1 : Int)), (5, .slice s.2.1.1 s.2.1.2.1 s.2.1.2.2)]) (fun s w => s.1 ≤ m ∧ E.M.le s.2.2 ∧ Row10 s.2.2 s.2.1.1 s.2.1.2.1 s.2.1.2.2 (dgs (x ^ s.1)) ∧ Hp E s.2.2 [] w) (fun s => m - s.1) (0, (a7, n7, c7), M7) ⟨rfl, rfl, trivial⟩ ⟨Nat.zero_le _, hM7, by rw [Nat.pow_zero]; exact h7, H⟩ ?_
  clear H
  rintro ⟨i, ⟨a1, n1, c1⟩, M1⟩ f w ⟨hi, hM1, hr, H⟩ again
  dsimp only at hi hM1 hr H
  refine Goes.seq (Goes.seq (Goes.region ?_))
  refine GoL.stepS rfl rfl (mvI rfl ?_)
  refine GoL.stepS rfl rfl (mvI rfl ?_)
  refine GoL.stepS rfl rfl (r_lss rfl rfl ?_)
  refine GoL.nil ?_
  refine Goes.cond rfl (fun hc => ?_) (fun hc => ?_)
  · have him : i < m := by have : (i : Int) < (m : Int) := by simpa using hc
                           omega
    have h1 : x ^ i < 10 ^ (k * i + 1) := by
      have : x ^ i ≤ (10 ^ k) ^ i := Nat.pow_le_pow_left (by omega) i
      rw [← Nat.pow_mul] at this
      rw [Nat.pow_succ]
      have hp : 0 < 10 ^ (k * i) := Nat.pow_pos (by decide)
      omega
    have h2 : k * i ≤ k * m := Nat.mul_le_mul_left _ hi
    have h3 : k ≤ k * m := Nat.le_mul_of_pos_right _ (by omega)
    refine Goes.skip (Goes.seq (Goes.block (Goes.region ?_)))
    refine GoL.stepS rfl rfl (mvL rfl ?_)
    refine GoL.stepS rfl rfl (mvL rfl ?_)
    refine GoL.stepS rfl rfl (r_call cc70 (rmul_spec ⟨_, _, _, rfl, hr⟩ ⟨_, _, _, rfl, ha.mono hM1⟩ h1 lx (by first | omega | (dsimp only; omega)) (by first | omega | (dsimp only; omega))) H ?_); clear H; rintro v15 M15 L15 w hM15 ⟨rfl, a15, n15, c15, rfl, h15⟩ H
    refine GoL.stepS rfl rfl (asL rfl ?_)
    refine GoL.nil ?_
    refine Goes.inBlock (Goes.region ?_)
    refine GoL.stepS rfl rfl (mvI rfl ?_)
    first | refine GoL.stepS rfl rfl (r_addI rfl rfl (by first | omega | (dsimp only; omega)) (by first | omega | (dsimp only; omega)) ?_) | refine GoL.stepS rfl rfl (r_add rfl rfl ?_)
    refine GoL.stepS rfl rfl (asI rfl ?_)
    refine GoL.nil ?_
    exact again (i + 1, (a15, n15, c15), M15) _ _ ⟨rfl, rfl, trivial⟩ (.of_strip (by kernel_rfl)) ⟨by first | omega | (dsimp only; omega), hM1.trans hM15, by dsimp only; rw [Nat.pow_succ]; exact h15, H⟩ (by first | omega | (dsimp only; omega))
  · have him : i = m := by have : ¬ (i : Int) < (m : Int) := by simpa using hc
                           omega
    subst him
    refine Goes.exit rfl (Goes.seq (Goes.region ?_))
    refine GoL.stepS rfl rfl (mvL rfl ?_)
    refine GoL.stepS rfl rfl (asL rfl ?_)
    refine GoL.nil ?_
    exact Goes.ret (ret1 (v := .slice _ _ _) rfl rfl rfl H.nil ⟨rfl, _, _, _, rfl, hr⟩)

end Go.Proofs.YtlcpdkckldlceaaGreatDoor
namespace Go.Proofs.YtlcpdkckldlceaaGreatDoor
open Go.Sx Go.Nat32 Go.Dec Go.Lib
attribute [local irreducible] pt sl itc
set_option maxRecDepth 100000
set_option linter.unusedVariables false
set_option linter.unusedSimpArgs false

def st (l : List UInt8) : Value := .string ⟨l.toArray⟩

theorem chr_toNat {d : Nat} (h : d < 10) : (chr d).toNat = 48 + d := by
  unfold chr
  rw [UInt8.toNat_ofNat_of_lt' (by show 48 + d < 256; omega)]

theorem rtext_spec {M : RO} {u : Value} {x k : Nat} (hx : RefN M u x) (lx : x < 10 ^ k) (hk : k ≤ 1000000) :
    Sp Tryz.prog 28 [u] M [] fun r _ L' => L' = [] ∧ r = st (decDigits x) := by
  obtain ⟨a, n, c, rfl, ha⟩ := hx
  have hlx := dgs_len lx
  have hla := ha.len
  refine Sp.enter (n := 32) Tryz.func28 rfl Tryz.ntmps28 rfl ?_
  intro E hE H
  subst hE
  refine Goes.seq (Goes.region ?_)
  refine GoL.stepS rfl rfl (asS rfl ?_)
  refine GoL.nil ?_
  refine Goes.seq (Goes.seq (Goes.region ?_))
  refine GoL.stepS rfl rfl (mvL rfl ?_)
  refine GoL.stepS rfl rfl (r_lenSlice tt55 rfl ?_)
  refine GoL.stepS rfl rfl (r_eql rfl rfl ?_)
  refine GoL.nil ?_
  refine Goes.cond rfl (fun hc => ?_) (fun hc => ?_)
  · have hn : n = 0 := by simpa using hc
    refine Goes.seq (Goes.region ?_)
    refine GoL.stepS rfl rfl (asS rfl ?_)
    refine GoL.nil ?_
    refine Goes.ret (ret1 (v := .string _) rfl rfl rfl H.nil ⟨rfl, ?_⟩)
    have h0 : x = 0 := by
      by_cases h : x = 0
      · exact h
      · have := dgs_ne h
        exact absurd (List.eq_nil_of_length_eq_zero (by omega)) this
    subst h0; rw [decDigits_small (by decide)]; rfl
  · have hn : n ≠ 0 := by simpa using hc
    have hx0 : x ≠ 0 := by intro h; subst h; rw [dgs_zero] at hla; exact hn hla
    refine Goes.skip (Goes.seq (Goes.region ?_))
    refine GoL.stepS rfl rfl (mvL rfl ?_)
    refine GoL.stepS rfl rfl (r_lenSlice tt55 rfl ?_)
    refine GoL.stepS rfl rfl (r_mkS1 (z := bv 0) (l := n) (cp := n) tt124 tt5 rfl rfl rfl rfl rfl (Nat.le_refl _) rfl (by first | omega | (dsimp only; omega)) H ?_); clear H; intro b10 w hb10 H
    refine GoL.stepS rfl rfl (asL rfl ?_)
    refine GoL.nil ?_
    refine Goes.seq (Goes.seq (Goes.region ?_))
    refine GoL.stepS rfl rfl (asI rfl ?_)
    refine GoL.nil ?_
    refine Goes.block ?_
    refine Goes.loopS (4 :: 11 :: 12 :: 13 :: 14 :: 15 :: 16 :: 17 :: 18 :: 19 :: 20 :: 21 :: 22 :: 23 :: 24 :: 25 :: 26 :: 27 :: 28 :: 29 :: []) (fun (i : Nat) => [(4, .int .i64 (i : Int))]) (fun i w => i ≤ n ∧ Hp E E.M [pt b10 (.cells ((List.replicate (n - i) 0 ++ ((dgs x).take i).reverse.map chr).map bv).toArray 5 (0, 0))] w) (fun i => n - i) 0 ⟨rfl, trivial⟩ ⟨Nat.zero_le _, ?_⟩ ?_
    · rw [List.take_zero, List.reverse_nil, List.map_nil, List.append_nil, List.map_replicate, Nat.sub_zero]; exact H
    clear H
    rintro i f w ⟨hi, H⟩ again
    refine Goes.seq (Goes.seq (Goes.region ?_))
    refine GoL.stepS rfl rfl (mvI rfl ?_)
    refine GoL.stepS rfl rfl (mvL rfl ?_)
    refine GoL.stepS rfl rfl (r_lenSlice tt55 rfl ?_)
    refine GoL.stepS rfl rfl (r_lss rfl rfl ?_)
    refine GoL.nil ?_
    refine Goes.cond rfl (fun hc => ?_) (fun hc => ?_)
    · have hin : i < n := by have : (i : Int) < (n : Int) := by simpa using hc
                             omega
      obtain ⟨ba, oa, csa, ea, za, rfl, hMa, hva⟩ := ha.at hin
      have da := isD_getD (isD_dgs x) i
      refine Goes.skip (Goes.seq (Goes.block (Goes.region ?_)))
      refine GoL.stepS rfl rfl (mvL rfl ?_)
      refine GoL.stepS rfl rfl (mvL rfl ?_)
      refine GoL.stepS rfl rfl (r_lenSlice tt55 rfl ?_)
      refine GoL.stepS rfl rfl (r_subR ((n - 1 : Nat) : Int) rfl rfl (by first | omega | (dsimp only; omega)) (by first | omega | (dsimp only; omega)) (by first | omega | (dsimp only; omega)) ?_)
      refine GoL.stepS rfl rfl (mvI rfl ?_)
      refine GoL.stepS rfl rfl (r_subR ((n - 1 - i : Nat) : Int) rfl rfl (by first | omega | (dsimp only; omega)) (by first | omega | (dsimp only; omega)) (by first | omega | (dsimp only; omega)) ?_)
      refine GoL.stepS rfl rfl (mvL rfl ?_)
      refine GoL.stepS rfl rfl (mvI rfl ?_)
      refine GoL.stepS rfl rfl (r_indexAddrN tt55 tt3 rfl rfl (by first | omega | (dsimp only; omega)) ?_)
      refine GoL.stepS rfl rfl (ldI tt3 rfl (H.ro hMa) (by rw [Nat.mul_one]; exact hva) ?_)
      refine GoL.stepS rfl rfl (r_addR ((48 + (dgs x).getD i 0 : Nat) : Int) rfl rfl (by first | omega | (dsimp only; omega)) (by first | omega | (dsimp only; omega)) (by first | omega | (dsimp only; omega)) ?_)
      refine GoL.stepS rfl rfl (r_cv_u8 tt3 tt5 rfl (by first | omega | (dsimp only; omega)) (by first | omega | (dsimp only; omega)) ?_)
      refine GoL.stepS rfl rfl (r_indexAddrN tt124 tt5 rfl rfl (by first | omega | (dsimp only; omega)) ?_)
      refine GoL.step0 rfl (r_store1 (v := bv (chr ((dgs x).getD i 0))) tt5 rfl (by unfold bv; rw [chr_toNat da]; rfl) H .head rfl (by rw [List.size_toArray, List.length_map, List.length_append, List.length_replicate]; omega) ?_); clear H; intro w H
      refine GoL.nil ?_
      refine Goes.inBlock (Goes.region ?_)
      refine GoL.stepS rfl rfl (mvI rfl ?_)
      first | refine GoL.stepS rfl rfl (r_addI rfl rfl (by first | omega | (dsimp only; omega)) (by first | omega | (dsimp only; omega)) ?_) | refine GoL.stepS rfl rfl (r_add rfl rfl ?_)
      refine GoL.stepS rfl rfl (asI rfl ?_)
      refine GoL.nil ?_
      refine again (i + 1) _ _ ⟨rfl, trivial⟩ (.of_strip (by kernel_rfl)) ⟨by omega, ?_⟩ (by omega)
      rw [Nat.mul_one, Nat.zero_add, bv_set] at H
      have e1 : (List.replicate (n - i) (0 : UInt8) ++ ((dgs x).take i).reverse.map chr).set (n - 1 - i) (chr ((dgs x).getD i 0)) = List.replicate (n - (i + 1)) 0 ++ ((dgs x).take (i + 1)).reverse.map chr := by
        rw [List.set_append_left _ _ (by rw [List.length_replicate]; omega), take_snoc (by omega), List.reverse_append, List.map_append, List.reverse_singleton, List.map_singleton, ← List.append_assoc]
        congr 1
        apply List.ext_getElem?
        intro j
        rw [List.getElem?_set, List.getElem?_append]
        simp only [List.length_replicate, List.getElem?_replicate]
        by_cases h1 : n - 1 - i = j
        · subst h1
          rw [if_pos rfl, if_pos (by omega), if_neg (by omega), show n - 1 - i - (n - (i + 1)) = 0 by omega]; rfl
        · rw [if_neg h1]
          by_cases h2 : j < n - (i + 1)
          · rw [if_pos (by omega), if_pos h2, if_pos h2]
          · rw [if_neg (by omega), if_neg h2, List.getElem?_eq_none (by simp; omega)]
      rw [e1] at H; exact H
    · have hin : i = n := by have : ¬ (i : Int) < (n : Int) := by simpa using hc
                             omega
      subst hin
      have e1 : (List.replicate (i - i) (0 : UInt8) ++ ((dgs x).take i).reverse.map chr) = decDigits x := by
        rw [Nat.sub_self, List.replicate_zero, List.nil_append, List.take_of_length_le (by omega), decDigits_dgs hx0]
      rw [e1] at H
      have hdl : (decDigits x).length = i := by rw [decDigits_dgs hx0]; simp; omega
      refine Goes.exit rfl (Goes.seq (Goes.region ?_))
      refine GoL.stepS rfl rfl (mvL rfl ?_)
      refine GoL.stepS rfl rfl (r_bytesStr tt124 tt5 tt9 rfl (H.own .head) hdl (by rw [← hdl]; simp [List.take_of_length_le]) (by simp; omega) ?_)
      refine GoL.stepS rfl rfl (asS rfl ?_)
      refine GoL.nil ?_
      exact Goes.ret (ret1 (v := .string _) rfl rfl rfl H.nil ⟨rfl, rfl⟩)

end Go.Proofs.YtlcpdkckldlceaaGreatDoor
namespace Go.Proofs.YtlcpdkckldlceaaGreatDoor
open Go.Sx Go.Nat32 Go.Dec
attribute [local irreducible] pt sl itc
set_option maxRecDepth 100000
set_option linter.unusedVariables false
set_option linter.unusedSimpArgs false

def kl (p q : Nat × Nat) : Prop := p.1 < q.1 ∨ p.1 = q.1 ∧ p.2 < q.2
instance (p q : Nat × Nat) : Decidable (kl p q) := by unfold kl; infer_instance
theorem kl.trans {p q r : Nat × Nat} (h : kl p q) (h' : kl q r) : kl p r := by unfold kl at *; omega
theorem kl.irrefl {p : Nat × Nat} : ¬ kl p p := by unfold kl; omega
theorem kl.tri {p q : Nat × Nat} (h : ¬ kl p q) (h' : p ≠ q) : kl q p := by
  unfold kl at *
  have : ¬ (p.1 = q.1 ∧ p.2 = q.2) := fun ⟨h1, h2⟩ => h' (Prod.ext h1 h2)
  omega

abbrev T3 := Value × Nat × Nat
def encT (t : T3) : List Value := [t.1, iv t.2.1, iv t.2.2]
def flatT (l : List T3) : List Value := l.flatMap encT
theorem flatT_length (l : List T3) : (flatT l).length = l.length * 3 := by
  induction l with
  | nil => rfl
  | cons t l ih => unfold flatT at *; rw [List.flatMap_cons, List.length_append, ih]; simp [encT]; omega
theorem flatT_append (l m : List T3) : flatT (l ++ m) = flatT l ++ flatT m := by simp [flatT]
theorem flatT_get {l : List T3} {j : Nat} {t : T3} (h : l[j]? = some t) : (flatT l)[j * 3]? = some t.1 ∧ (flatT l)[j * 3 + 1]? = some (iv t.2.1) ∧ (flatT l)[j * 3 + 2]? = some (iv t.2.2) := by
  induction l generalizing j with
  | nil => simp at h
  | cons x l ih =>
    cases j with
    | zero => obtain rfl : x = t := by simpa using h
              exact ⟨rfl, rfl, rfl⟩
    | succ j =>
      have := ih (j := j) (by simpa using h)
      have e : ∀ m, (flatT (x :: l))[m + 3]? = (flatT l)[m]? := fun m => by
        show ([x.1, iv x.2.1, iv x.2.2] ++ flatT l)[m + 3]? = _
        rw [List.getElem?_append_right (by simp)]; rfl
      rw [Nat.succ_mul, show j * 3 + 3 + 1 = j * 3 + 1 + 3 by omega, show j * 3 + 3 + 2 = j * 3 + 2 + 3 by omega, e, e, e]
      exact this
theorem flatT_take (l : List T3) (k : Nat) : (flatT l).take (k * 3) = flatT (l.take k) := by
  induction l generalizing k with
  | nil => simp [flatT]
  | cons x l ih =>
    cases k with
    | zero => simp [flatT]
    | succ k =>
      have := ih k
      show ([x.1, iv x.2.1, iv x.2.2] ++ flatT l).take _ = [x.1, iv x.2.1, iv x.2.2] ++ flatT (l.take k)
      rw [Nat.succ_mul, List.take_append, ← this]; simp
theorem flatT_drop (l : List T3) (k : Nat) : (flatT l).drop (k * 3) = flatT (l.drop k) := by
  induction l generalizing k with
  | nil => simp [flatT]
  | cons x l ih =>
    cases k with
    | zero => simp
    | succ k =>
      have := ih k
      show ([x.1, iv x.2.1, iv x.2.2] ++ flatT l).drop _ = flatT (l.drop k)
      rw [Nat.succ_mul, List.drop_append, ← this]; simp
theorem flatT_set {l : List T3} {j : Nat} {t : T3} (h : l[j]? = some t) (v : Value) : (flatT l).set (j * 3) v = flatT (l.set j (v, t.2)) := by
  induction l generalizing j with
  | nil => simp at h
  | cons x l ih =>
    cases j with
    | zero => obtain rfl : x = t := by simpa using h
              rfl
    | succ j =>
      have := ih (j := j) (by simpa using h)
      show ([x.1, iv x.2.1, iv x.2.2] ++ flatT l).set _ v = [x.1, iv x.2.1, iv x.2.2] ++ flatT (l.set j (v, t.2))
      rw [Nat.succ_mul, ← this, List.set_append_right _ _ (by simp)]; rfl

/-- The list, ascending, stands for the coefficients h. -/
structure RepT (M : RO) (h : Nat → Nat → Nat) (l : List T3) : Prop where
  asc : l.Pairwise fun s t => kl s.2 t.2
  val : ∀ t ∈ l, h t.2.1 t.2.2 ≠ 0 ∧ RefN M t.1 (h t.2.1 t.2.2)
  all : ∀ a b, h a b ≠ 0 → ∃ t ∈ l, t.2 = (a, b)
  box : ∀ t ∈ l, t.2.1 ≤ 2048 ∧ t.2.2 ≤ 2048

theorem RepT.mono {M M' : RO} {h : Nat → Nat → Nat} {l : List T3} (H : RepT M h l) (hM : M.le M') : RepT M' h l := ⟨H.asc, fun t ht => ⟨(H.val t ht).1, (H.val t ht).2.mono hM⟩, H.all, H.box⟩
theorem RepT.nil (M : RO) : RepT M (fun _ _ => 0) [] := ⟨.nil, (fun t h => by cases h), (fun a b h => absurd rfl h), fun t h => by cases h⟩

/-- The value is the reference's polynomial with the coefficients f. -/
def RefP (M : RO) (v : Value) (f : Nat → Nat → Nat) : Prop := ∃ a n c l, v = .slice a n c ∧ n = l.length ∧ n ≤ c ∧ RoRow M a (flatT l) ∧ RepT M f l ∧ l.length ≤ 1000000
theorem RefP.mono {M M' : RO} {v : Value} {f : Nat → Nat → Nat} (h : RefP M v f) (hM : M.le M') : RefP M' v f :=
  let ⟨a, n, c, l, h1, h2, h3, h4, h5, h6⟩ := h; ⟨a, n, c, l, h1, h2, h3, h4.mono hM, h5.mono hM, h6⟩
theorem RefP.zero (M : RO) : RefP M (.slice none 0 0) (fun _ _ => 0) := ⟨none, 0, 0, [], rfl, rfl, Nat.le_refl _, .inl rfl, .nil M, by decide⟩

theorem RepT.update {M : RO} {h : Nat → Nat → Nat} {l : List T3} {j : Nat} {t : T3} {v : Value} {y : Nat} (H : RepT M h l) (hj : l[j]? = some t) (hv : RefN M v y) (hy : y ≠ 0) : RepT M (upd h t.2.1 t.2.2 y) (l.set j (v, t.2)) where
  asc := by
    have e : (l.set j (v, t.2)).map (·.2) = l.map (·.2) := map_set_same _ _ _ _ fun y hy => by rw [hj] at hy; cases hy; rfl
    have := List.pairwise_map.2 H.asc
    exact List.pairwise_map.1 (e ▸ this)
  val := by
    intro s hs
    obtain ⟨m, hm⟩ := List.mem_iff_getElem?.1 hs
    rw [List.getElem?_set] at hm
    by_cases hjm : j = m
    · subst hjm
      rw [if_pos rfl] at hm
      split at hm
      · cases hm
        have : upd h t.2.1 t.2.2 y t.2.1 t.2.2 = y := by simp [upd]
        dsimp only
        rw [this]; exact ⟨hy, hv⟩
      · cases hm
    · rw [if_neg hjm] at hm
      have hsl : s ∈ l := List.mem_of_getElem? hm
      have hne : ¬ (s.2.1 = t.2.1 ∧ s.2.2 = t.2.2) := by
        rintro ⟨e1, e2⟩
        have e : s.2 = t.2 := Prod.ext e1 e2
        have hlt := H.asc
        rw [List.pairwise_iff_getElem] at hlt
        obtain ⟨hm1, hm2⟩ := List.getElem?_eq_some_iff.1 hm
        obtain ⟨hj1, hj2⟩ := List.getElem?_eq_some_iff.1 hj
        rcases Nat.lt_or_gt_of_ne hjm with h' | h'
        · have := hlt j m hj1 hm1 h'; rw [hj2, hm2, e] at this; exact kl.irrefl this
        · have := hlt m j hm1 hj1 h'; rw [hj2, hm2, e] at this; exact kl.irrefl this
      simp only [upd, if_neg hne]
      exact H.val s hsl
  all := by
    intro a b hab
    by_cases hc : a = t.2.1 ∧ b = t.2.2
    · obtain ⟨rfl, rfl⟩ := hc
      obtain ⟨hj1, hj2⟩ := List.getElem?_eq_some_iff.1 hj
      exact ⟨(v, t.2), List.mem_iff_getElem?.2 ⟨j, by rw [List.getElem?_set, if_pos rfl, if_pos hj1]⟩, rfl⟩
    · simp only [upd, if_neg hc] at hab
      obtain ⟨s, hs, he⟩ := H.all a b hab
      obtain ⟨m, hm⟩ := List.mem_iff_getElem?.1 hs
      refine ⟨s, List.mem_iff_getElem?.2 ⟨m, ?_⟩, he⟩
      rw [List.getElem?_set, if_neg, hm]
      intro e; subst e; rw [hj] at hm; cases hm
      exact hc ⟨by rw [he], by rw [he]⟩
  box := by
    intro s hs
    rcases List.mem_or_eq_of_mem_set hs with h1 | rfl
    · exact H.box s h1
    · exact H.box t (List.mem_of_getElem? hj)

theorem RepT.insert {M : RO} {h : Nat → Nat → Nat} {l1 l2 : List T3} {a b : Nat} {v : Value} {y : Nat} (H : RepT M h (l1 ++ l2)) (h1 : ∀ t ∈ l1, kl t.2 (a, b)) (h2 : ∀ t ∈ l2, kl (a, b) t.2) (hv : RefN M v y) (hy : y ≠ 0) (ha : a ≤ 2048) (hb : b ≤ 2048) :
    h a b = 0 ∧ RepT M (upd h a b y) (l1 ++ (v, a, b) :: l2) := by
  have hne : ∀ t ∈ l1 ++ l2, ¬ (t.2.1 = a ∧ t.2.2 = b) := by
    rintro t ht ⟨e1, e2⟩
    have e : t.2 = (a, b) := Prod.ext e1 e2
    rcases List.mem_append.1 ht with h' | h'
    · have := h1 t h'; rw [e] at this; exact kl.irrefl this
    · have := h2 t h'; rw [e] at this; exact kl.irrefl this
  have h0 : h a b = 0 := by
    by_cases h0 : h a b = 0
    · exact h0
    · obtain ⟨t, ht, he⟩ := H.all a b h0
      exact absurd ⟨by rw [he], by rw [he]⟩ (hne t ht)
  have hasc := List.pairwise_append.1 H.asc
  refine ⟨h0, ?_, ?_, ?_, ?_⟩
  · refine List.pairwise_append.2 ⟨hasc.1, List.pairwise_cons.2 ⟨fun t ht => h2 t ht, hasc.2.1⟩, fun s hs t ht => ?_⟩
    rcases List.mem_cons.1 ht with rfl | ht
    · exact h1 s hs
    · exact hasc.2.2 s hs t ht
  · intro t ht
    have : t = (v, a, b) ∨ t ∈ l1 ++ l2 := by
      rcases List.mem_append.1 ht with h' | h'
      · exact .inr (List.mem_append_left _ h')
      · rcases List.mem_cons.1 h' with h' | h'
        · exact .inl h'
        · exact .inr (List.mem_append_right _ h')
    rcases this with rfl | ht
    · have : upd h a b y a b = y := by simp [upd]
      dsimp only
      rw [this]; exact ⟨hy, hv⟩
    · simp only [upd, if_neg (hne t ht)]
      exact H.val t ht
  · intro c d hcd
    by_cases hc : c = a ∧ d = b
    · obtain ⟨rfl, rfl⟩ := hc
      exact ⟨(v, c, d), by simp, rfl⟩
    · simp only [upd, if_neg hc] at hcd
      obtain ⟨t, ht, he⟩ := H.all c d hcd
      refine ⟨t, ?_, he⟩
      rcases List.mem_append.1 ht with h' | h'
      · exact List.mem_append_left _ h'
      · exact List.mem_append_right _ (List.mem_cons_of_mem _ h')
  · intro t ht
    rcases List.mem_append.1 ht with h' | h'
    · exact H.box t (List.mem_append_left _ h')
    · rcases List.mem_cons.1 h' with rfl | h'
      · exact ⟨ha, hb⟩
      · exact H.box t (List.mem_append_right _ h')

open Classical in
/-- acc and those of g's terms that have been met. -/
noncomputable def addT (acc g : Nat → Nat → Nat) (done : List T3) : Nat → Nat → Nat := fun a b => acc a b + (if ∃ t ∈ done, t.2 = (a, b) then g a b else 0)
theorem addT_nil (acc g : Nat → Nat → Nat) : addT acc g [] = acc := by
  funext a b; simp [addT]
theorem addT_all {M : RO} {acc g : Nat → Nat → Nat} {l : List T3} (h : RepT M g l) : addT acc g l = fun a b => acc a b + g a b := by
  funext a b
  unfold addT
  by_cases h0 : g a b = 0
  · simp [h0]
  · rw [if_pos (h.all a b h0)]
theorem addT_step {M : RO} {acc g : Nat → Nat → Nat} {l : List T3} {i : Nat} {t : T3} (h : RepT M g l) (ht : l[i]? = some t) :
    upd (addT acc g (l.take i)) t.2.1 t.2.2 (addT acc g (l.take i) t.2.1 t.2.2 + g t.2.1 t.2.2) = addT acc g (l.take (i + 1)) := by
  have e1 : l.take (i + 1) = l.take i ++ [t] := by rw [List.take_add_one, ht]; rfl
  have hno : ¬ ∃ s ∈ l.take i, s.2 = (t.2.1, t.2.2) := by
    rintro ⟨s, hs, he⟩
    have := h.asc
    rw [← List.take_append_drop i l] at this
    have ht2 : t ∈ l.drop i := List.mem_iff_getElem?.2 ⟨0, by rw [List.getElem?_drop]; exact ht⟩
    have := (List.pairwise_append.1 this).2.2 s hs t ht2
    rw [he] at this; exact kl.irrefl this
  rw [e1]
  funext c d
  by_cases hcd : c = t.2.1 ∧ d = t.2.2
  · obtain ⟨rfl, rfl⟩ := hcd
    have hy : ∃ s ∈ l.take i ++ [t], s.2 = (t.2.1, t.2.2) := ⟨t, by simp, rfl⟩
    simp only [upd, addT, and_self, if_true, if_neg hno, if_pos hy]
    omega
  · simp only [upd, if_neg hcd, addT]
    have : (∃ s ∈ l.take i ++ [t], s.2 = (c, d)) ↔ ∃ s ∈ l.take i, s.2 = (c, d) := by
      constructor
      · rintro ⟨s, h1, h2⟩
        rcases List.mem_append.1 h1 with h1 | h1
        · exact ⟨s, h1, h2⟩
        · obtain rfl := List.mem_singleton.1 h1
          exact absurd ⟨by rw [h2], by rw [h2]⟩ hcd
      · rintro ⟨s, h1, h2⟩; exact ⟨s, List.mem_append_left _ h1, h2⟩
    by_cases hx : ∃ s ∈ l.take i, s.2 = (c, d)
    · rw [if_pos hx, if_pos (this.2 hx)]
    · rw [if_neg hx, if_neg (fun h => hx (this.1 h))]
theorem addT_le {acc g : Nat → Nat → Nat} {l : List T3} (a b : Nat) : addT acc g l a b ≤ acc a b + g a b := by
  unfold addT; split <;> omega

end Go.Proofs.YtlcpdkckldlceaaGreatDoor
namespace Go.Proofs.YtlcpdkckldlceaaGreatDoor
open Go.Sx Go.Nat32 Go.Dec
attribute [local irreducible] pt sl itc
set_option maxRecDepth 100000
set_option linter.unusedVariables false
set_option linter.unusedSimpArgs false
set_option maxHeartbeats 2000000

theorem RefN.shape {M : RO} {v : Value} {x : Nat} (h : RefN M v x) : ∃ a n c, v = .slice a n c := let ⟨a, n, c, h1, _⟩ := h; ⟨a, n, c, h1⟩

theorem refadd_spec {M : RO} {u v : Value} {f g : Nat → Nat → Nat} {k : Nat} {lp lq : List T3} {pa qa : Option Addr} {pc qc : Nat}
    (hu : u = .slice pa lp.length pc) (hp : RoRow M pa (flatT lp)) (hpr : RepT M f lp) (hv : v = .slice qa lq.length qc) (hq : RoRow M qa (flatT lq)) (hqr : RepT M g lq) (hk : k ≤ 900000) (hfg : ∀ a b, f a b + g a b < 10 ^ k) (hl : lp.length + lq.length ≤ 1000000) :
    Sp Tryz.prog 19 [u, v] M [] fun r M' L' => L' = [] ∧ ∃ a c l, r = .slice a l.length c ∧ l.length ≤ c ∧ RoRow M' a (flatT l) ∧ RepT M' (fun a b => f a b + g a b) l ∧ l.length ≤ lp.length + lq.length := by
  subst hu hv
  refine Sp.enter (n := 123) Tryz.func19 rfl Tryz.ntmps19 rfl ?_
  intro E hE H
  subst hE
  have flp := flatT_length lp
  have flq := flatT_length lq
  refine Goes.seq (Goes.region ?_)
  refine GoL.stepS rfl rfl (asL rfl ?_)
  refine GoL.nil ?_
  refine Goes.seq (Goes.region ?_)
  refine GoL.stepS rfl rfl (r_bsl (cells := []) tt29 tt104 rfl (by rfl) H ?_); clear H; intro b8 w hb8 H
  have H := H.subst .head (sl_of_pt (e := 104) (ne := 3) (b := b8) (len := 0) (cap := 0) (c := #[]) rfl (Nat.le_refl _))
  have hone : ∀ l : List T3, RepT E.M f l → (flatT l).all oneCell = true := fun l hl => by
    rw [List.all_eq_true]
    intro x hx
    obtain ⟨t, ht, hx⟩ := List.mem_flatMap.1 hx
    obtain ⟨a, n, c, he⟩ := (hl.val t ht).2.shape
    simp only [encT, List.mem_cons, List.not_mem_nil, or_false] at hx
    rcases hx with rfl | rfl | rfl
    · rw [he]; rfl
    · rfl
    · rfl
  have hone := hone lp hpr
  refine GoL.stepS rfl rfl (mvL rfl ?_)
  refine GoL.stepS rfl rfl (r_append tt29 tt104 tt29 (by intro k hk; cases hk) rfl rfl rfl H .head (srcCells.ro H hp flp (by decide)) hone (by rw [Nat.zero_mul]; show 0 / 3 + _ ≤ _; omega) (by decide) (by decide) ?_); clear H; intro v10 w H
  refine GoL.stepS rfl rfl (r_as (v := v10) rfl ?_)
  refine GoL.nil ?_
  refine Goes.seq (Goes.seq (Goes.region ?_))
  refine GoL.stepS rfl rfl (asI rfl ?_)
  refine GoL.nil ?_
  refine Goes.block ?_
  have H : Hp E E.M [sl 104 3 v10 (flatT lp)] w := H
  obtain ⟨a0, n0, c0, rfl, hn0, hc0, ha0⟩ := H.slShape .head
  rw [flp] at hn0
  refine Goes.loopS (5 :: 6 :: 7 :: 11 :: 12 :: 13 :: 14 :: 15 :: 16 :: 17 :: 18 :: 19 :: 20 :: 21 :: 22 :: 23 :: 24 :: 25 :: 26 :: 27 :: 28 :: 29 :: 30 :: 31 :: 32 :: 33 :: 34 :: 35 :: 36 :: 37 :: 38 :: 39 :: 40 :: 41 :: 42 :: 43 :: 44 :: 45 :: 46 :: 47 :: 48 :: 49 :: 50 :: 51 :: 52 :: 53 :: 54 :: 55 :: 56 :: 57 :: 58 :: 59 :: 60 :: 61 :: 62 :: 63 :: 64 :: 65 :: 66 :: 67 :: 68 :: 69 :: 70 :: 71 :: 72 :: 73 :: 74 :: 75 :: 76 :: 77 :: 78 :: 79 :: 80 :: 81 :: 82 :: 83 :: 84 :: 85 :: 86 :: 87 :: 88 :: 89 :: 90 :: 91 :: 92 :: 93 :: 94 :: 95 :: 96 :: 97 :: 98 :: 99 :: 100 :: 101 :: 102 :: 103 :: 104 :: 105 :: 106 :: 107 :: 108 :: 109 :: 110 :: 111 :: 112 :: 113 :: 114 :: 115 :: 116 :: 117 :: 118 :: 119 :: 120 :: 121 :: []) (fun (s : Nat × List T3 × (Option Addr × Nat × Nat) × RO) => [(6, .int .i64 (s.1 : Int)), (5, .slice s.2.2.1.1 s.2.2.1.2.1 s.2.2.1.2.2)]) (fun s w => s.1 ≤ lq.length ∧ s.2.2.1.2.1 = s.2.1.length ∧ s.2.2.1.2.1 ≤ s.2.2.1.2.2 ∧ s.2.1.length ≤ lp.length + s.1 ∧ E.M.le s.2.2.2 ∧ RepT s.2.2.2 (addT f g (lq.take s.1)) s.2.1 ∧ Hp E s.2.2.2 [sl 104 3 (.slice s.2.2.1.1 s.2.2.1.2.1 s.2.2.1.2.2) (flatT s.2.1)] w) (fun s => lq.length - s.1) (0, lp, (a0, n0, c0), E.M) ⟨rfl, rfl, trivial⟩ ⟨Nat.zero_le _, by first | omega | (dsimp only; omega), hc0, Nat.le_refl _, RO.le.refl _, by rw [List.take_zero, addT_nil]; exact hpr, H⟩ ?_
  clear H ha0
  rintro ⟨i, l, ⟨oa, on, oc⟩, M1⟩ f0 w ⟨hi, hon, hoc, hll, hM1, hr, H⟩ again
  dsimp only at hi hon hoc hll hM1 hr H
  have fl := flatT_length l
  obtain ⟨_, _, _, heq, _, _, hoa⟩ := H.slShape .head
  cases heq
  refine Goes.seq (Goes.seq (Goes.region ?_))
  refine GoL.stepS rfl rfl (mvI rfl ?_)
  refine GoL.stepS rfl rfl (mvL rfl ?_)
  refine GoL.stepS rfl rfl (r_lenSlice tt29 rfl ?_)
  refine GoL.stepS rfl rfl (r_lss rfl rfl ?_)
  refine GoL.nil ?_
  refine Goes.cond rfl (fun hc => ?_) (fun hc => ?_)
  · have hin : i < lq.length := by have : (i : Int) < (lq.length : Int) := by simpa using hc
                                   omega
    obtain ⟨⟨tv, ta, tb⟩, ht⟩ : ∃ t, lq[i]? = some t := ⟨lq[i], List.getElem?_eq_getElem hin⟩
    obtain ⟨hq0, hq1, hq2⟩ := flatT_get ht
    dsimp only at hq0 hq1 hq2
    have htm := List.mem_of_getElem? ht
    have hbox := hqr.box _ htm
    obtain ⟨hg0, hgv⟩ := hqr.val _ htm
    dsimp only at hbox hg0 hgv
    obtain ⟨na, nn, nc, rfl⟩ := hgv.shape
    obtain ⟨qb, qo, qcs, qe, qz, rfl, hMq, hc0⟩ := hq.at hq0
    obtain ⟨_, _, _, _, _, h1, h2, hc1⟩ := hq.at hq1
    cases h1; rw [hMq] at h2; cases h2
    obtain ⟨_, _, _, _, _, h1, h2, hc2⟩ := hq.at hq2
    cases h1; rw [hMq] at h2; cases h2
    have hq3 : (qcs.extract (qo + i * 3) (qo + i * 3 + 3)) = #[.slice na nn nc, iv ta, iv tb] := by
      have hsz : qo + i * 3 + 3 ≤ qcs.size := by
        have h5 : qo + (i * 3 + 2) < qcs.size := by
          rcases Nat.lt_or_ge (qo + (i * 3 + 2)) qcs.size with h' | h'
          · exact h'
          · rw [Array.getElem?_eq_none h'] at hc2; cases hc2
        omega
      apply Array.ext_getElem?
      intro j
      rw [Array.getElem?_extract]
      rcases (by omega : j = 0 ∨ j = 1 ∨ j = 2 ∨ 3 ≤ j) with rfl | rfl | rfl | h
      · rw [if_pos (by omega)]; exact hc0
      · rw [if_pos (by omega)]; exact hc1
      · rw [if_pos (by omega)]; exact hc2
      · rw [if_neg (by omega), Array.getElem?_eq_none (by simpa using h)]
    have hq3s : qo + i * 3 + 3 ≤ qcs.size := by
      rcases Nat.lt_or_ge (qo + (i * 3 + 2)) qcs.size with h' | h'
      · omega
      · rw [Array.getElem?_eq_none h'] at hc2; cases hc2
    have hMq1 := hM1 _ _ hMq
    have hgv1 := hgv.mono hM1
    refine Goes.skip (Goes.seq (Goes.block (Goes.seq (Goes.region ?_))))
    refine GoL.stepS rfl rfl (asI rfl ?_)
    refine GoL.nil ?_
    refine Goes.seq ?_
    refine Goes.cutT (7 :: 17 :: 18 :: 19 :: 20 :: 21 :: 22 :: 23 :: 24 :: 25 :: 26 :: 27 :: 28 :: 29 :: 30 :: 31 :: 32 :: 33 :: 34 :: 35 :: 36 :: 37 :: 38 :: 39 :: 40 :: 41 :: 42 :: 43 :: 44 :: 45 :: 46 :: 47 :: 48 :: 49 :: 50 :: 51 :: 52 :: 53 :: 54 :: 55 :: 56 :: 57 :: 58 :: 59 :: 60 :: 61 :: []) [(7, .int .i64 0)] (fun (x : Nat) => [(7, .int .i64 (x : Int))]) (fun x w => x ≤ l.length ∧ (∀ t ∈ l.take x, kl t.2 (ta, tb)) ∧ (x < l.length → ∃ t, l[x]? = some t ∧ ¬ kl t.2 (ta, tb)) ∧ Hp E M1 [sl 104 3 (.slice oa on oc) (flatT l)] w) ⟨rfl, trivial⟩ ?aft ?cut
    case cut =>
      intro f2 meet
      refine Goes.block ?_
      refine Goes.loopS (7 :: 17 :: 18 :: 19 :: 20 :: 21 :: 22 :: 23 :: 24 :: 25 :: 26 :: 27 :: 28 :: 29 :: 30 :: 31 :: 32 :: 33 :: 34 :: 35 :: 36 :: 37 :: 38 :: 39 :: 40 :: 41 :: 42 :: 43 :: 44 :: 45 :: 46 :: 47 :: 48 :: 49 :: 50 :: 51 :: 52 :: 53 :: 54 :: 55 :: 56 :: 57 :: 58 :: 59 :: 60 :: 61 :: []) (fun (x : Nat) => [(7, .int .i64 (x : Int))]) (fun x w => x ≤ l.length ∧ (∀ t ∈ l.take x, kl t.2 (ta, tb)) ∧ Hp E M1 [sl 104 3 (.slice oa on oc) (flatT l)] w) (fun x => l.length - x) 0 ⟨rfl, trivial⟩ ⟨Nat.zero_le _, (fun t ht => by simp at ht), H⟩ ?_
      clear H
      rintro x f1 w ⟨hx, hbelow, H⟩ again2
      by_cases hxl : x = l.length
      · refine Goes.seq (Goes.seq ?_)
        refine Goes.regionD0 mixed (by kernel_rfl) 44 H ?_
        refine Ver.read (v := .int _ _) 0 rfl (by kernel_rfl) (fun M' L' w hM H => mvI rfl ⟨rfl, rfl⟩) ?_
        refine Ver.read (v := .slice _ _ _) 1 rfl (by kernel_rfl) (fun M' L' w hM H => mvL rfl ⟨rfl, rfl⟩) ?_
        refine Ver.read (v := .int _ _) 2 rfl (by kernel_rfl) (fun M' L' w hM H => r_lenSlice tt29 rfl ⟨rfl, rfl⟩) ?_
        refine Ver.read (v := .bool _) 3 rfl (by kernel_rfl) (fun M' L' w hM H => r_lssF rfl rfl (by first | omega | (dsimp only; omega)) ⟨rfl, rfl⟩) ?_
        refine Ver.read (v := .bool _) 4 rfl (by kernel_rfl) (fun M' L' w hM H => mvB rfl ⟨rfl, rfl⟩) ?_
        refine Ver.readN 5 rfl (by kernel_rfl) (by intro e; cases e) ?_
        refine Ver.readN 6 rfl (by kernel_rfl) (by intro e; cases e) ?_
        refine Ver.readN 7 rfl (by kernel_rfl) (by intro e; cases e) ?_
        refine Ver.readN 8 rfl (by kernel_rfl) (by intro e; cases e) ?_
        refine Ver.readN 9 rfl (by kernel_rfl) (by intro e; cases e) ?_
        refine Ver.readN 10 rfl (by kernel_rfl) (by intro e; cases e) ?_
        refine Ver.readN 11 rfl (by kernel_rfl) (by intro e; cases e) ?_
        refine Ver.readN 12 rfl (by kernel_rfl) (by intro e; cases e) ?_
        refine Ver.readN 13 rfl (by kernel_rfl) (by intro e; cases e) ?_
        refine Ver.readN 14 rfl (by kernel_rfl) (by intro e; cases e) ?_
        refine Ver.readN 15 rfl (by kernel_rfl) (by intro e; cases e) ?_
        refine Ver.readN 16 rfl (by kernel_rfl) (by intro e; cases e) ?_
        refine Ver.readN 17 rfl (by kernel_rfl) (by intro e; cases e) ?_
        refine Ver.readN 18 rfl (by kernel_rfl) (by intro e; cases e) ?_
        refine Ver.readN 19 rfl (by kernel_rfl) (by intro e; cases e) ?_
        refine Ver.readN 20 rfl (by kernel_rfl) (by intro e; cases e) ?_
        refine Ver.readN 21 rfl (by kernel_rfl) (by intro e; cases e) ?_
        refine Ver.readN 22 rfl (by kernel_rfl) (by intro e; cases e) ?_
        refine Ver.readN 23 rfl (by kernel_rfl) (by intro e; cases e) ?_
        refine Ver.readN 24 rfl (by kernel_rfl) (by intro e; cases e) ?_
        refine Ver.readN 25 rfl (by kernel_rfl) (by intro e; cases e) ?_
        refine Ver.readN 26 rfl (by kernel_rfl) (by intro e; cases e) ?_
        refine Ver.readN 27 rfl (by kernel_rfl) (by intro e; cases e) ?_
        refine Ver.readN 28 rfl (by kernel_rfl) (by intro e; cases e) ?_
        refine Ver.readN 29 rfl (by kernel_rfl) (by intro e; cases e) ?_
        refine Ver.readN 30 rfl (by kernel_rfl) (by intro e; cases e) ?_
        refine Ver.readN 31 rfl (by kernel_rfl) (by intro e; cases e) ?_
        refine Ver.readN 32 rfl (by kernel_rfl) (by intro e; cases e) ?_
        refine Ver.readN 33 rfl (by kernel_rfl) (by intro e; cases e) ?_
        refine Ver.readN 34 rfl (by kernel_rfl) (by intro e; cases e) ?_
        refine Ver.readN 35 rfl (by kernel_rfl) (by intro e; cases e) ?_
        refine Ver.readN 36 rfl (by kernel_rfl) (by intro e; cases e) ?_
        refine Ver.readN 37 rfl (by kernel_rfl) (by intro e; cases e) ?_
        refine Ver.readN 38 rfl (by kernel_rfl) (by intro e; cases e) ?_
        refine Ver.readN 39 rfl (by kernel_rfl) (by intro e; cases e) ?_
        refine Ver.readN 40 rfl (by kernel_rfl) (by intro e; cases e) ?_
        refine Ver.readN 41 rfl (by kernel_rfl) (by intro e; cases e) ?_
        refine Ver.read (v := .bool _) 42 rfl (by kernel_rfl) (fun M' L' w hM H => r_pickF (v := .bool false) rfl rfl ⟨rfl, rfl⟩) ?_
        refine Ver.fin0 (by kernel_rfl) ?_
        clear H; intro w H
        refine Goes.condF rfl (rfl) ?_
        refine Goes.exit rfl ?_
        exact meet x _ _ ⟨rfl, trivial⟩ (.of_strip2 (by kernel_rfl)) ⟨hx, hbelow, (fun h => absurd hxl (by omega)), H⟩
      · obtain ⟨⟨lv, la, lb⟩, hlx⟩ : ∃ t, l[x]? = some t := ⟨l[x], List.getElem?_eq_getElem (by omega)⟩
        obtain ⟨hl0, hl1, hl2⟩ := flatT_get hlx
        dsimp only at hl0 hl1 hl2
        have htk : l.take (x + 1) = l.take x ++ [(lv, la, lb)] := by rw [List.take_add_one, hlx]; rfl
        obtain ⟨ob, rfl⟩ := hoa (by omega)
        by_cases hA : la < ta
        · have hkl : kl (la, lb) (ta, tb) := .inl hA
          refine Goes.seq (Goes.seq ?_)
          refine Goes.regionD0 mixed (by kernel_rfl) 44 H ?_
          refine Ver.read (v := .int _ _) 0 rfl (by kernel_rfl) (fun M' L' w hM H => mvI rfl ⟨rfl, rfl⟩) ?_
          refine Ver.read (v := .slice _ _ _) 1 rfl (by kernel_rfl) (fun M' L' w hM H => mvL rfl ⟨rfl, rfl⟩) ?_
          refine Ver.read (v := .int _ _) 2 rfl (by kernel_rfl) (fun M' L' w hM H => r_lenSlice tt29 rfl ⟨rfl, rfl⟩) ?_
          refine Ver.read (v := .bool _) 3 rfl (by kernel_rfl) (fun M' L' w hM H => r_lssT rfl rfl (by first | omega | (dsimp only; omega)) ⟨rfl, rfl⟩) ?_
          refine Ver.read (v := .bool _) 4 rfl (by kernel_rfl) (fun M' L' w hM H => mvB rfl ⟨rfl, rfl⟩) ?_
          refine Ver.readY (v := .slice _ _ _) 5 rfl (by kernel_rfl) rfl (fun M' L' w hM H => mvL rfl ⟨rfl, rfl⟩) ?_
          refine Ver.readY (v := .int _ _) 6 rfl (by kernel_rfl) rfl (fun M' L' w hM H => mvI rfl ⟨rfl, rfl⟩) ?_
          refine Ver.readY (v := .pointer _) 7 rfl (by kernel_rfl) rfl (fun M' L' w hM H => r_indexAddrN tt29 tt104 rfl rfl (by first | omega | (dsimp only; omega)) ⟨rfl, rfl⟩) ?_
          first | refine Ver.readY (v := .pointer _) 8 rfl (by kernel_rfl) rfl (fun M' L' w hM H => r_fieldAddr0 fo104_1 rfl ⟨rfl, rfl⟩) ?_ | refine Ver.readY (v := .pointer _) 8 rfl (by kernel_rfl) rfl (fun M' L' w hM H => r_fieldAddr fo104_1 rfl ⟨rfl, rfl⟩) ?_
          refine Ver.readY (v := .int _ _) 9 rfl (by kernel_rfl) rfl (fun M' L' w hM H => r_ldSl (v := iv la) tt3 rfl H .head rfl (by rw [Nat.zero_add]; exact hl1) ⟨rfl, rfl⟩) ?_
          refine Ver.readY (v := .slice _ _ _) 10 rfl (by kernel_rfl) rfl (fun M' L' w hM H => mvL rfl ⟨rfl, rfl⟩) ?_
          refine Ver.readY (v := .int _ _) 11 rfl (by kernel_rfl) rfl (fun M' L' w hM H => mvI rfl ⟨rfl, rfl⟩) ?_
          refine Ver.readY (v := .pointer _) 12 rfl (by kernel_rfl) rfl (fun M' L' w hM H => r_indexAddrN tt29 tt104 rfl rfl hin ⟨rfl, rfl⟩) ?_
          first | refine Ver.readY (v := .pointer _) 13 rfl (by kernel_rfl) rfl (fun M' L' w hM H => r_fieldAddr0 fo104_1 rfl ⟨rfl, rfl⟩) ?_ | refine Ver.readY (v := .pointer _) 13 rfl (by kernel_rfl) rfl (fun M' L' w hM H => r_fieldAddr fo104_1 rfl ⟨rfl, rfl⟩) ?_
          refine Ver.readY (v := .int _ _) 14 rfl (by kernel_rfl) rfl (fun M' L' w hM H => ldI tt3 rfl (H.ro (hM _ _ hMq1)) hc1 ⟨rfl, rfl⟩) ?_
          refine Ver.readY (v := .bool _) 15 rfl (by kernel_rfl) rfl (fun M' L' w hM H => r_lssT rfl rfl (by first | omega | (dsimp only; omega)) ⟨rfl, rfl⟩) ?_
          refine Ver.readY (v := .bool _) 16 rfl (by kernel_rfl) rfl (fun M' L' w hM H => mvB rfl ⟨rfl, rfl⟩) ?_
          refine Ver.readN 17 rfl (by kernel_rfl) (by intro e; cases e) ?_
          refine Ver.readN 18 rfl (by kernel_rfl) (by intro e; cases e) ?_
          refine Ver.readN 19 rfl (by kernel_rfl) (by intro e; cases e) ?_
          refine Ver.readN 20 rfl (by kernel_rfl) (by intro e; cases e) ?_
          refine Ver.readN 21 rfl (by kernel_rfl) (by intro e; cases e) ?_
          refine Ver.readN 22 rfl (by kernel_rfl) (by intro e; cases e) ?_
          refine Ver.readN 23 rfl (by kernel_rfl) (by intro e; cases e) ?_
          refine Ver.readN 24 rfl (by kernel_rfl) (by intro e; cases e) ?_
          refine Ver.readN 25 rfl (by kernel_rfl) (by intro e; cases e) ?_
          refine Ver.readN 26 rfl (by kernel_rfl) (by intro e; cases e) ?_
          refine Ver.readN 27 rfl (by kernel_rfl) (by intro e; cases e) ?_
          refine Ver.readN 28 rfl (by kernel_rfl) (by intro e; cases e) ?_
          refine Ver.readN 29 rfl (by kernel_rfl) (by intro e; cases e) ?_
          refine Ver.readN 30 rfl (by kernel_rfl) (by intro e; cases e) ?_
          refine Ver.readN 31 rfl (by kernel_rfl) (by intro e; cases e) ?_
          refine Ver.readN 32 rfl (by kernel_rfl) (by intro e; cases e) ?_
          refine Ver.readN 33 rfl (by kernel_rfl) (by intro e; cases e) ?_
          refine Ver.readN 34 rfl (by kernel_rfl) (by intro e; cases e) ?_
          refine Ver.readN 35 rfl (by kernel_rfl) (by intro e; cases e) ?_
          refine Ver.readN 36 rfl (by kernel_rfl) (by intro e; cases e) ?_
          refine Ver.readN 37 rfl (by kernel_rfl) (by intro e; cases e) ?_
          refine Ver.readN 38 rfl (by kernel_rfl) (by intro e; cases e) ?_
          refine Ver.readN 39 rfl (by kernel_rfl) (by intro e; cases e) ?_
          refine Ver.readN 40 rfl (by kernel_rfl) (by intro e; cases e) ?_
          refine Ver.readY (v := .bool _) 41 rfl (by kernel_rfl) rfl (fun M' L' w hM H => r_pickT (v := .bool true) rfl rfl ⟨rfl, rfl⟩) ?_
          refine Ver.read (v := .bool _) 42 rfl (by kernel_rfl) (fun M' L' w hM H => r_pickT (v := .bool true) rfl rfl ⟨rfl, rfl⟩) ?_
          refine Ver.fin0 (by kernel_rfl) ?_
          clear H; intro w H
          refine Goes.condT rfl (rfl) ?_
          refine Goes.skip (Goes.block (Goes.region ?_))
          refine GoL.stepS rfl rfl (mvI rfl ?_)
          first | refine GoL.stepS rfl rfl (r_addI rfl rfl (by first | omega | (dsimp only; omega)) (by first | omega | (dsimp only; omega)) ?_) | refine GoL.stepS rfl rfl (r_add rfl rfl ?_)
          refine GoL.stepS rfl rfl (asI rfl ?_)
          refine GoL.nil ?_
          refine Goes.inBlock ?_
          refine again2 (x + 1) _ _ ⟨rfl, trivial⟩ (.of_strip (by kernel_rfl)) ⟨by omega, ?_, H⟩ (by omega)
          intro t ht
          rw [htk] at ht
          rcases List.mem_append.1 ht with ht | ht
          · exact hbelow t ht
          · obtain rfl := List.mem_singleton.1 ht; exact hkl
        · by_cases hA2 : la = ta
          · subst hA2
            by_cases hB : lb < tb
            · have hkl : kl (la, lb) (la, tb) := .inr ⟨rfl, hB⟩
              refine Goes.seq (Goes.seq ?_)
              refine Goes.regionD0 mixed (by kernel_rfl) 44 H ?_
              refine Ver.read (v := .int _ _) 0 rfl (by kernel_rfl) (fun M' L' w hM H => mvI rfl ⟨rfl, rfl⟩) ?_
              refine Ver.read (v := .slice _ _ _) 1 rfl (by kernel_rfl) (fun M' L' w hM H => mvL rfl ⟨rfl, rfl⟩) ?_
              refine Ver.read (v := .int _ _) 2 rfl (by kernel_rfl) (fun M' L' w hM H => r_lenSlice tt29 rfl ⟨rfl, rfl⟩) ?_
              refine Ver.read (v := .bool _) 3 rfl (by kernel_rfl) (fun M' L' w hM H => r_lssT rfl rfl (by first | omega | (dsimp only; omega)) ⟨rfl, rfl⟩) ?_
              refine Ver.read (v := .bool _) 4 rfl (by kernel_rfl) (fun M' L' w hM H => mvB rfl ⟨rfl, rfl⟩) ?_
              refine Ver.readY (v := .slice _ _ _) 5 rfl (by kernel_rfl) rfl (fun M' L' w hM H => mvL rfl ⟨rfl, rfl⟩) ?_
              refine Ver.readY (v := .int _ _) 6 rfl (by kernel_rfl) rfl (fun M' L' w hM H => mvI rfl ⟨rfl, rfl⟩) ?_
              refine Ver.readY (v := .pointer _) 7 rfl (by kernel_rfl) rfl (fun M' L' w hM H => r_indexAddrN tt29 tt104 rfl rfl (by first | omega | (dsimp only; omega)) ⟨rfl, rfl⟩) ?_
              first | refine Ver.readY (v := .pointer _) 8 rfl (by kernel_rfl) rfl (fun M' L' w hM H => r_fieldAddr0 fo104_1 rfl ⟨rfl, rfl⟩) ?_ | refine Ver.readY (v := .pointer _) 8 rfl (by kernel_rfl) rfl (fun M' L' w hM H => r_fieldAddr fo104_1 rfl ⟨rfl, rfl⟩) ?_
              refine Ver.readY (v := .int _ _) 9 rfl (by kernel_rfl) rfl (fun M' L' w hM H => r_ldSl (v := iv la) tt3 rfl H .head rfl (by rw [Nat.zero_add]; exact hl1) ⟨rfl, rfl⟩) ?_
              refine Ver.readY (v := .slice _ _ _) 10 rfl (by kernel_rfl) rfl (fun M' L' w hM H => mvL rfl ⟨rfl, rfl⟩) ?_
              refine Ver.readY (v := .int _ _) 11 rfl (by kernel_rfl) rfl (fun M' L' w hM H => mvI rfl ⟨rfl, rfl⟩) ?_
              refine Ver.readY (v := .pointer _) 12 rfl (by kernel_rfl) rfl (fun M' L' w hM H => r_indexAddrN tt29 tt104 rfl rfl hin ⟨rfl, rfl⟩) ?_
              first | refine Ver.readY (v := .pointer _) 13 rfl (by kernel_rfl) rfl (fun M' L' w hM H => r_fieldAddr0 fo104_1 rfl ⟨rfl, rfl⟩) ?_ | refine Ver.readY (v := .pointer _) 13 rfl (by kernel_rfl) rfl (fun M' L' w hM H => r_fieldAddr fo104_1 rfl ⟨rfl, rfl⟩) ?_
              refine Ver.readY (v := .int _ _) 14 rfl (by kernel_rfl) rfl (fun M' L' w hM H => ldI tt3 rfl (H.ro (hM _ _ hMq1)) hc1 ⟨rfl, rfl⟩) ?_
              refine Ver.readY (v := .bool _) 15 rfl (by kernel_rfl) rfl (fun M' L' w hM H => r_lssF rfl rfl (by first | omega | (dsimp only; omega)) ⟨rfl, rfl⟩) ?_
              refine Ver.readY (v := .bool _) 16 rfl (by kernel_rfl) rfl (fun M' L' w hM H => mvB rfl ⟨rfl, rfl⟩) ?_
              refine Ver.readY (v := .slice _ _ _) 17 rfl (by kernel_rfl) rfl (fun M' L' w hM H => mvL rfl ⟨rfl, rfl⟩) ?_
              refine Ver.readY (v := .int _ _) 18 rfl (by kernel_rfl) rfl (fun M' L' w hM H => mvI rfl ⟨rfl, rfl⟩) ?_
              refine Ver.readY (v := .pointer _) 19 rfl (by kernel_rfl) rfl (fun M' L' w hM H => r_indexAddrN tt29 tt104 rfl rfl (by first | omega | (dsimp only; omega)) ⟨rfl, rfl⟩) ?_
              first | refine Ver.readY (v := .pointer _) 20 rfl (by kernel_rfl) rfl (fun M' L' w hM H => r_fieldAddr0 fo104_1 rfl ⟨rfl, rfl⟩) ?_ | refine Ver.readY (v := .pointer _) 20 rfl (by kernel_rfl) rfl (fun M' L' w hM H => r_fieldAddr fo104_1 rfl ⟨rfl, rfl⟩) ?_
              refine Ver.readY (v := .int _ _) 21 rfl (by kernel_rfl) rfl (fun M' L' w hM H => r_ldSl (v := iv la) tt3 rfl H .head rfl (by rw [Nat.zero_add]; exact hl1) ⟨rfl, rfl⟩) ?_
              refine Ver.readY (v := .slice _ _ _) 22 rfl (by kernel_rfl) rfl (fun M' L' w hM H => mvL rfl ⟨rfl, rfl⟩) ?_
              refine Ver.readY (v := .int _ _) 23 rfl (by kernel_rfl) rfl (fun M' L' w hM H => mvI rfl ⟨rfl, rfl⟩) ?_
              refine Ver.readY (v := .pointer _) 24 rfl (by kernel_rfl) rfl (fun M' L' w hM H => r_indexAddrN tt29 tt104 rfl rfl hin ⟨rfl, rfl⟩) ?_
              first | refine Ver.readY (v := .pointer _) 25 rfl (by kernel_rfl) rfl (fun M' L' w hM H => r_fieldAddr0 fo104_1 rfl ⟨rfl, rfl⟩) ?_ | refine Ver.readY (v := .pointer _) 25 rfl (by kernel_rfl) rfl (fun M' L' w hM H => r_fieldAddr fo104_1 rfl ⟨rfl, rfl⟩) ?_
              refine Ver.readY (v := .int _ _) 26 rfl (by kernel_rfl) rfl (fun M' L' w hM H => ldI tt3 rfl (H.ro (hM _ _ hMq1)) hc1 ⟨rfl, rfl⟩) ?_
              refine Ver.readY (v := .bool _) 27 rfl (by kernel_rfl) rfl (fun M' L' w hM H => r_eqlT rfl rfl rfl ⟨rfl, rfl⟩) ?_
              refine Ver.readY (v := .bool _) 28 rfl (by kernel_rfl) rfl (fun M' L' w hM H => mvB rfl ⟨rfl, rfl⟩) ?_
              refine Ver.readY (v := .slice _ _ _) 29 rfl (by kernel_rfl) rfl (fun M' L' w hM H => mvL rfl ⟨rfl, rfl⟩) ?_
              refine Ver.readY (v := .int _ _) 30 rfl (by kernel_rfl) rfl (fun M' L' w hM H => mvI rfl ⟨rfl, rfl⟩) ?_
              refine Ver.readY (v := .pointer _) 31 rfl (by kernel_rfl) rfl (fun M' L' w hM H => r_indexAddrN tt29 tt104 rfl rfl (by first | omega | (dsimp only; omega)) ⟨rfl, rfl⟩) ?_
              first | refine Ver.readY (v := .pointer _) 32 rfl (by kernel_rfl) rfl (fun M' L' w hM H => r_fieldAddr0 fo104_2 rfl ⟨rfl, rfl⟩) ?_ | refine Ver.readY (v := .pointer _) 32 rfl (by kernel_rfl) rfl (fun M' L' w hM H => r_fieldAddr fo104_2 rfl ⟨rfl, rfl⟩) ?_
              refine Ver.readY (v := .int _ _) 33 rfl (by kernel_rfl) rfl (fun M' L' w hM H => r_ldSl (v := iv lb) tt3 rfl H .head rfl (by rw [Nat.zero_add]; exact hl2) ⟨rfl, rfl⟩) ?_
              refine Ver.readY (v := .slice _ _ _) 34 rfl (by kernel_rfl) rfl (fun M' L' w hM H => mvL rfl ⟨rfl, rfl⟩) ?_
              refine Ver.readY (v := .int _ _) 35 rfl (by kernel_rfl) rfl (fun M' L' w hM H => mvI rfl ⟨rfl, rfl⟩) ?_
              refine Ver.readY (v := .pointer _) 36 rfl (by kernel_rfl) rfl (fun M' L' w hM H => r_indexAddrN tt29 tt104 rfl rfl hin ⟨rfl, rfl⟩) ?_
              first | refine Ver.readY (v := .pointer _) 37 rfl (by kernel_rfl) rfl (fun M' L' w hM H => r_fieldAddr0 fo104_2 rfl ⟨rfl, rfl⟩) ?_ | refine Ver.readY (v := .pointer _) 37 rfl (by kernel_rfl) rfl (fun M' L' w hM H => r_fieldAddr fo104_2 rfl ⟨rfl, rfl⟩) ?_
              refine Ver.readY (v := .int _ _) 38 rfl (by kernel_rfl) rfl (fun M' L' w hM H => ldI tt3 rfl (H.ro (hM _ _ hMq1)) hc2 ⟨rfl, rfl⟩) ?_
              refine Ver.readY (v := .bool _) 39 rfl (by kernel_rfl) rfl (fun M' L' w hM H => r_lssT rfl rfl (by first | omega | (dsimp only; omega)) ⟨rfl, rfl⟩) ?_
              refine Ver.readY (v := .bool _) 40 rfl (by kernel_rfl) rfl (fun M' L' w hM H => r_pickT (v := .bool true) rfl rfl ⟨rfl, rfl⟩) ?_
              refine Ver.readY (v := .bool _) 41 rfl (by kernel_rfl) rfl (fun M' L' w hM H => r_pickF (v := .bool true) rfl rfl ⟨rfl, rfl⟩) ?_
              refine Ver.read (v := .bool _) 42 rfl (by kernel_rfl) (fun M' L' w hM H => r_pickT (v := .bool true) rfl rfl ⟨rfl, rfl⟩) ?_
              refine Ver.fin0 (by kernel_rfl) ?_
              clear H; intro w H
              refine Goes.condT rfl (rfl) ?_
              refine Goes.skip (Goes.block (Goes.region ?_))
              refine GoL.stepS rfl rfl (mvI rfl ?_)
              first | refine GoL.stepS rfl rfl (r_addI rfl rfl (by first | omega | (dsimp only; omega)) (by first | omega | (dsimp only; omega)) ?_) | refine GoL.stepS rfl rfl (r_add rfl rfl ?_)
              refine GoL.stepS rfl rfl (asI rfl ?_)
              refine GoL.nil ?_
              refine Goes.inBlock ?_
              refine again2 (x + 1) _ _ ⟨rfl, trivial⟩ (.of_strip (by kernel_rfl)) ⟨by omega, ?_, H⟩ (by omega)
              intro t ht
              rw [htk] at ht
              rcases List.mem_append.1 ht with ht | ht
              · exact hbelow t ht
              · obtain rfl := List.mem_singleton.1 ht; exact hkl
            · have hnkl : ¬ kl (la, lb) (la, tb) := by unfold kl; dsimp only; omega
              refine Goes.seq (Goes.seq ?_)
              refine Goes.regionD0 mixed (by kernel_rfl) 44 H ?_
              refine Ver.read (v := .int _ _) 0 rfl (by kernel_rfl) (fun M' L' w hM H => mvI rfl ⟨rfl, rfl⟩) ?_
              refine Ver.read (v := .slice _ _ _) 1 rfl (by kernel_rfl) (fun M' L' w hM H => mvL rfl ⟨rfl, rfl⟩) ?_
              refine Ver.read (v := .int _ _) 2 rfl (by kernel_rfl) (fun M' L' w hM H => r_lenSlice tt29 rfl ⟨rfl, rfl⟩) ?_
              refine Ver.read (v := .bool _) 3 rfl (by kernel_rfl) (fun M' L' w hM H => r_lssT rfl rfl (by first | omega | (dsimp only; omega)) ⟨rfl, rfl⟩) ?_
              refine Ver.read (v := .bool _) 4 rfl (by kernel_rfl) (fun M' L' w hM H => mvB rfl ⟨rfl, rfl⟩) ?_
              refine Ver.readY (v := .slice _ _ _) 5 rfl (by kernel_rfl) rfl (fun M' L' w hM H => mvL rfl ⟨rfl, rfl⟩) ?_
              refine Ver.readY (v := .int _ _) 6 rfl (by kernel_rfl) rfl (fun M' L' w hM H => mvI rfl ⟨rfl, rfl⟩) ?_
              refine Ver.readY (v := .pointer _) 7 rfl (by kernel_rfl) rfl (fun M' L' w hM H => r_indexAddrN tt29 tt104 rfl rfl (by first | omega | (dsimp only; omega)) ⟨rfl, rfl⟩) ?_
              first | refine Ver.readY (v := .pointer _) 8 rfl (by kernel_rfl) rfl (fun M' L' w hM H => r_fieldAddr0 fo104_1 rfl ⟨rfl, rfl⟩) ?_ | refine Ver.readY (v := .pointer _) 8 rfl (by kernel_rfl) rfl (fun M' L' w hM H => r_fieldAddr fo104_1 rfl ⟨rfl, rfl⟩) ?_
              refine Ver.readY (v := .int _ _) 9 rfl (by kernel_rfl) rfl (fun M' L' w hM H => r_ldSl (v := iv la) tt3 rfl H .head rfl (by rw [Nat.zero_add]; exact hl1) ⟨rfl, rfl⟩) ?_
              refine Ver.readY (v := .slice _ _ _) 10 rfl (by kernel_rfl) rfl (fun M' L' w hM H => mvL rfl ⟨rfl, rfl⟩) ?_
              refine Ver.readY (v := .int _ _) 11 rfl (by kernel_rfl) rfl (fun M' L' w hM H => mvI rfl ⟨rfl, rfl⟩) ?_
              refine Ver.readY (v := .pointer _) 12 rfl (by kernel_rfl) rfl (fun M' L' w hM H => r_indexAddrN tt29 tt104 rfl rfl hin ⟨rfl, rfl⟩) ?_
              first | refine Ver.readY (v := .pointer _) 13 rfl (by kernel_rfl) rfl (fun M' L' w hM H => r_fieldAddr0 fo104_1 rfl ⟨rfl, rfl⟩) ?_ | refine Ver.readY (v := .pointer _) 13 rfl (by kernel_rfl) rfl (fun M' L' w hM H => r_fieldAddr fo104_1 rfl ⟨rfl, rfl⟩) ?_
              refine Ver.readY (v := .int _ _) 14 rfl (by kernel_rfl) rfl (fun M' L' w hM H => ldI tt3 rfl (H.ro (hM _ _ hMq1)) hc1 ⟨rfl, rfl⟩) ?_
              refine Ver.readY (v := .bool _) 15 rfl (by kernel_rfl) rfl (fun M' L' w hM H => r_lssF rfl rfl (by first | omega | (dsimp only; omega)) ⟨rfl, rfl⟩) ?_
              refine Ver.readY (v := .bool _) 16 rfl (by kernel_rfl) rfl (fun M' L' w hM H => mvB rfl ⟨rfl, rfl⟩) ?_
              refine Ver.readY (v := .slice _ _ _) 17 rfl (by kernel_rfl) rfl (fun M' L' w hM H => mvL rfl ⟨rfl, rfl⟩) ?_
              refine Ver.readY (v := .int _ _) 18 rfl (by kernel_rfl) rfl (fun M' L' w hM H => mvI rfl ⟨rfl, rfl⟩) ?_
              refine Ver.readY (v := .pointer _) 19 rfl (by kernel_rfl) rfl (fun M' L' w hM H => r_indexAddrN tt29 tt104 rfl rfl (by first | omega | (dsimp only; omega)) ⟨rfl, rfl⟩) ?_
              first | refine Ver.readY (v := .pointer _) 20 rfl (by kernel_rfl) rfl (fun M' L' w hM H => r_fieldAddr0 fo104_1 rfl ⟨rfl, rfl⟩) ?_ | refine Ver.readY (v := .pointer _) 20 rfl (by kernel_rfl) rfl (fun M' L' w hM H => r_fieldAddr fo104_1 rfl ⟨rfl, rfl⟩) ?_
              refine Ver.readY (v := .int _ _) 21 rfl (by kernel_rfl) rfl (fun M' L' w hM H => r_ldSl (v := iv la) tt3 rfl H .head rfl (by rw [Nat.zero_add]; exact hl1) ⟨rfl, rfl⟩) ?_
              refine Ver.readY (v := .slice _ _ _) 22 rfl (by kernel_rfl) rfl (fun M' L' w hM H => mvL rfl ⟨rfl, rfl⟩) ?_
              refine Ver.readY (v := .int _ _) 23 rfl (by kernel_rfl) rfl (fun M' L' w hM H => mvI rfl ⟨rfl, rfl⟩) ?_
              refine Ver.readY (v := .pointer _) 24 rfl (by kernel_rfl) rfl (fun M' L' w hM H => r_indexAddrN tt29 tt104 rfl rfl hin ⟨rfl, rfl⟩) ?_
              first | refine Ver.readY (v := .pointer _) 25 rfl (by kernel_rfl) rfl (fun M' L' w hM H => r_fieldAddr0 fo104_1 rfl ⟨rfl, rfl⟩) ?_ | refine Ver.readY (v := .pointer _) 25 rfl (by kernel_rfl) rfl (fun M' L' w hM H => r_fieldAddr fo104_1 rfl ⟨rfl, rfl⟩) ?_
              refine Ver.readY (v := .int _ _) 26 rfl (by kernel_rfl) rfl (fun M' L' w hM H => ldI tt3 rfl (H.ro (hM _ _ hMq1)) hc1 ⟨rfl, rfl⟩) ?_
              refine Ver.readY (v := .bool _) 27 rfl (by kernel_rfl) rfl (fun M' L' w hM H => r_eqlT rfl rfl rfl ⟨rfl, rfl⟩) ?_
              refine Ver.readY (v := .bool _) 28 rfl (by kernel_rfl) rfl (fun M' L' w hM H => mvB rfl ⟨rfl, rfl⟩) ?_
              refine Ver.readY (v := .slice _ _ _) 29 rfl (by kernel_rfl) rfl (fun M' L' w hM H => mvL rfl ⟨rfl, rfl⟩) ?_
              refine Ver.readY (v := .int _ _) 30 rfl (by kernel_rfl) rfl (fun M' L' w hM H => mvI rfl ⟨rfl, rfl⟩) ?_
              refine Ver.readY (v := .pointer _) 31 rfl (by kernel_rfl) rfl (fun M' L' w hM H => r_indexAddrN tt29 tt104 rfl rfl (by first | omega | (dsimp only; omega)) ⟨rfl, rfl⟩) ?_
              first | refine Ver.readY (v := .pointer _) 32 rfl (by kernel_rfl) rfl (fun M' L' w hM H => r_fieldAddr0 fo104_2 rfl ⟨rfl, rfl⟩) ?_ | refine Ver.readY (v := .pointer _) 32 rfl (by kernel_rfl) rfl (fun M' L' w hM H => r_fieldAddr fo104_2 rfl ⟨rfl, rfl⟩) ?_
              refine Ver.readY (v := .int _ _) 33 rfl (by kernel_rfl) rfl (fun M' L' w hM H => r_ldSl (v := iv lb) tt3 rfl H .head rfl (by rw [Nat.zero_add]; exact hl2) ⟨rfl, rfl⟩) ?_
              refine Ver.readY (v := .slice _ _ _) 34 rfl (by kernel_rfl) rfl (fun M' L' w hM H => mvL rfl ⟨rfl, rfl⟩) ?_
              refine Ver.readY (v := .int _ _) 35 rfl (by kernel_rfl) rfl (fun M' L' w hM H => mvI rfl ⟨rfl, rfl⟩) ?_
              refine Ver.readY (v := .pointer _) 36 rfl (by kernel_rfl) rfl (fun M' L' w hM H => r_indexAddrN tt29 tt104 rfl rfl hin ⟨rfl, rfl⟩) ?_
              first | refine Ver.readY (v := .pointer _) 37 rfl (by kernel_rfl) rfl (fun M' L' w hM H => r_fieldAddr0 fo104_2 rfl ⟨rfl, rfl⟩) ?_ | refine Ver.readY (v := .pointer _) 37 rfl (by kernel_rfl) rfl (fun M' L' w hM H => r_fieldAddr fo104_2 rfl ⟨rfl, rfl⟩) ?_
              refine Ver.readY (v := .int _ _) 38 rfl (by kernel_rfl) rfl (fun M' L' w hM H => ldI tt3 rfl (H.ro (hM _ _ hMq1)) hc2 ⟨rfl, rfl⟩) ?_
              refine Ver.readY (v := .bool _) 39 rfl (by kernel_rfl) rfl (fun M' L' w hM H => r_lssF rfl rfl (by first | omega | (dsimp only; omega)) ⟨rfl, rfl⟩) ?_
              refine Ver.readY (v := .bool _) 40 rfl (by kernel_rfl) rfl (fun M' L' w hM H => r_pickT (v := .bool false) rfl rfl ⟨rfl, rfl⟩) ?_
              refine Ver.readY (v := .bool _) 41 rfl (by kernel_rfl) rfl (fun M' L' w hM H => r_pickF (v := .bool false) rfl rfl ⟨rfl, rfl⟩) ?_
              refine Ver.read (v := .bool _) 42 rfl (by kernel_rfl) (fun M' L' w hM H => r_pickT (v := .bool false) rfl rfl ⟨rfl, rfl⟩) ?_
              refine Ver.fin0 (by kernel_rfl) ?_
              clear H; intro w H
              refine Goes.condF rfl (rfl) ?_
              refine Goes.exit rfl ?_
              exact meet x _ _ ⟨rfl, trivial⟩ (.of_strip2 (by kernel_rfl)) ⟨hx, hbelow, (fun _ => ⟨_, hlx, hnkl⟩), H⟩
          · have hnkl : ¬ kl (la, lb) (ta, tb) := by unfold kl; dsimp only; omega
            refine Goes.seq (Goes.seq ?_)
            refine Goes.regionD0 mixed (by kernel_rfl) 44 H ?_
            refine Ver.read (v := .int _ _) 0 rfl (by kernel_rfl) (fun M' L' w hM H => mvI rfl ⟨rfl, rfl⟩) ?_
            refine Ver.read (v := .slice _ _ _) 1 rfl (by kernel_rfl) (fun M' L' w hM H => mvL rfl ⟨rfl, rfl⟩) ?_
            refine Ver.read (v := .int _ _) 2 rfl (by kernel_rfl) (fun M' L' w hM H => r_lenSlice tt29 rfl ⟨rfl, rfl⟩) ?_
            refine Ver.read (v := .bool _) 3 rfl (by kernel_rfl) (fun M' L' w hM H => r_lssT rfl rfl (by first | omega | (dsimp only; omega)) ⟨rfl, rfl⟩) ?_
            refine Ver.read (v := .bool _) 4 rfl (by kernel_rfl) (fun M' L' w hM H => mvB rfl ⟨rfl, rfl⟩) ?_
            refine Ver.readY (v := .slice _ _ _) 5 rfl (by kernel_rfl) rfl (fun M' L' w hM H => mvL rfl ⟨rfl, rfl⟩) ?_
            refine Ver.readY (v := .int _ _) 6 rfl (by kernel_rfl) rfl (fun M' L' w hM H => mvI rfl ⟨rfl, rfl⟩) ?_
            refine Ver.readY (v := .pointer _) 7 rfl (by kernel_rfl) rfl (fun M' L' w hM H => r_indexAddrN tt29 tt104 rfl rfl (by first | omega | (dsimp only; omega)) ⟨rfl, rfl⟩) ?_
            first | refine Ver.readY (v := .pointer _) 8 rfl (by kernel_rfl) rfl (fun M' L' w hM H => r_fieldAddr0 fo104_1 rfl ⟨rfl, rfl⟩) ?_ | refine Ver.readY (v := .pointer _) 8 rfl (by kernel_rfl) rfl (fun M' L' w hM H => r_fieldAddr fo104_1 rfl ⟨rfl, rfl⟩) ?_
            refine Ver.readY (v := .int _ _) 9 rfl (by kernel_rfl) rfl (fun M' L' w hM H => r_ldSl (v := iv la) tt3 rfl H .head rfl (by rw [Nat.zero_add]; exact hl1) ⟨rfl, rfl⟩) ?_
            refine Ver.readY (v := .slice _ _ _) 10 rfl (by kernel_rfl) rfl (fun M' L' w hM H => mvL rfl ⟨rfl, rfl⟩) ?_
            refine Ver.readY (v := .int _ _) 11 rfl (by kernel_rfl) rfl (fun M' L' w hM H => mvI rfl ⟨rfl, rfl⟩) ?_
            refine Ver.readY (v := .pointer _) 12 rfl (by kernel_rfl) rfl (fun M' L' w hM H => r_indexAddrN tt29 tt104 rfl rfl hin ⟨rfl, rfl⟩) ?_
            first | refine Ver.readY (v := .pointer _) 13 rfl (by kernel_rfl) rfl (fun M' L' w hM H => r_fieldAddr0 fo104_1 rfl ⟨rfl, rfl⟩) ?_ | refine Ver.readY (v := .pointer _) 13 rfl (by kernel_rfl) rfl (fun M' L' w hM H => r_fieldAddr fo104_1 rfl ⟨rfl, rfl⟩) ?_
            refine Ver.readY (v := .int _ _) 14 rfl (by kernel_rfl) rfl (fun M' L' w hM H => ldI tt3 rfl (H.ro (hM _ _ hMq1)) hc1 ⟨rfl, rfl⟩) ?_
            refine Ver.readY (v := .bool _) 15 rfl (by kernel_rfl) rfl (fun M' L' w hM H => r_lssF rfl rfl (by first | omega | (dsimp only; omega)) ⟨rfl, rfl⟩) ?_
            refine Ver.readY (v := .bool _) 16 rfl (by kernel_rfl) rfl (fun M' L' w hM H => mvB rfl ⟨rfl, rfl⟩) ?_
            refine Ver.readY (v := .slice _ _ _) 17 rfl (by kernel_rfl) rfl (fun M' L' w hM H => mvL rfl ⟨rfl, rfl⟩) ?_
            refine Ver.readY (v := .int _ _) 18 rfl (by kernel_rfl) rfl (fun M' L' w hM H => mvI rfl ⟨rfl, rfl⟩) ?_
            refine Ver.readY (v := .pointer _) 19 rfl (by kernel_rfl) rfl (fun M' L' w hM H => r_indexAddrN tt29 tt104 rfl rfl (by first | omega | (dsimp only; omega)) ⟨rfl, rfl⟩) ?_
            first | refine Ver.readY (v := .pointer _) 20 rfl (by kernel_rfl) rfl (fun M' L' w hM H => r_fieldAddr0 fo104_1 rfl ⟨rfl, rfl⟩) ?_ | refine Ver.readY (v := .pointer _) 20 rfl (by kernel_rfl) rfl (fun M' L' w hM H => r_fieldAddr fo104_1 rfl ⟨rfl, rfl⟩) ?_
            refine Ver.readY (v := .int _ _) 21 rfl (by kernel_rfl) rfl (fun M' L' w hM H => r_ldSl (v := iv la) tt3 rfl H .head rfl (by rw [Nat.zero_add]; exact hl1) ⟨rfl, rfl⟩) ?_
            refine Ver.readY (v := .slice _ _ _) 22 rfl (by kernel_rfl) rfl (fun M' L' w hM H => mvL rfl ⟨rfl, rfl⟩) ?_
            refine Ver.readY (v := .int _ _) 23 rfl (by kernel_rfl) rfl (fun M' L' w hM H => mvI rfl ⟨rfl, rfl⟩) ?_
            refine Ver.readY (v := .pointer _) 24 rfl (by kernel_rfl) rfl (fun M' L' w hM H => r_indexAddrN tt29 tt104 rfl rfl hin ⟨rfl, rfl⟩) ?_
            first | refine Ver.readY (v := .pointer _) 25 rfl (by kernel_rfl) rfl (fun M' L' w hM H => r_fieldAddr0 fo104_1 rfl ⟨rfl, rfl⟩) ?_ | refine Ver.readY (v := .pointer _) 25 rfl (by kernel_rfl) rfl (fun M' L' w hM H => r_fieldAddr fo104_1 rfl ⟨rfl, rfl⟩) ?_
            refine Ver.readY (v := .int _ _) 26 rfl (by kernel_rfl) rfl (fun M' L' w hM H => ldI tt3 rfl (H.ro (hM _ _ hMq1)) hc1 ⟨rfl, rfl⟩) ?_
            refine Ver.readY (v := .bool _) 27 rfl (by kernel_rfl) rfl (fun M' L' w hM H => r_eqlF rfl rfl (by first | omega | (dsimp only; omega)) ⟨rfl, rfl⟩) ?_
            refine Ver.readY (v := .bool _) 28 rfl (by kernel_rfl) rfl (fun M' L' w hM H => mvB rfl ⟨rfl, rfl⟩) ?_
            refine Ver.readN 29 rfl (by kernel_rfl) (by intro e; cases e) ?_
            refine Ver.readN 30 rfl (by kernel_rfl) (by intro e; cases e) ?_
            refine Ver.readN 31 rfl (by kernel_rfl) (by intro e; cases e) ?_
            refine Ver.readN 32 rfl (by kernel_rfl) (by intro e; cases e) ?_
            refine Ver.readN 33 rfl (by kernel_rfl) (by intro e; cases e) ?_
            refine Ver.readN 34 rfl (by kernel_rfl) (by intro e; cases e) ?_
            refine Ver.readN 35 rfl (by kernel_rfl) (by intro e; cases e) ?_
            refine Ver.readN 36 rfl (by kernel_rfl) (by intro e; cases e) ?_
            refine Ver.readN 37 rfl (by kernel_rfl) (by intro e; cases e) ?_
            refine Ver.readN 38 rfl (by kernel_rfl) (by intro e; cases e) ?_
            refine Ver.readN 39 rfl (by kernel_rfl) (by intro e; cases e) ?_
            refine Ver.readY (v := .bool _) 40 rfl (by kernel_rfl) rfl (fun M' L' w hM H => r_pickF (v := .bool false) rfl rfl ⟨rfl, rfl⟩) ?_
            refine Ver.readY (v := .bool _) 41 rfl (by kernel_rfl) rfl (fun M' L' w hM H => r_pickF (v := .bool false) rfl rfl ⟨rfl, rfl⟩) ?_
            refine Ver.read (v := .bool _) 42 rfl (by kernel_rfl) (fun M' L' w hM H => r_pickT (v := .bool false) rfl rfl ⟨rfl, rfl⟩) ?_
            refine Ver.fin0 (by kernel_rfl) ?_
            clear H; intro w H
            refine Goes.condF rfl (rfl) ?_
            refine Goes.exit rfl ?_
            exact meet x _ _ ⟨rfl, trivial⟩ (.of_strip2 (by kernel_rfl)) ⟨hx, hbelow, (fun _ => ⟨_, hlx, hnkl⟩), H⟩
    case aft =>
      clear H
      rintro x f3 w ⟨hx, hbelow, hnot, H⟩
      refine Goes.seq (Goes.seq ?_)
      refine Goes.cutS (62 :: 63 :: 64 :: 65 :: 66 :: 67 :: 68 :: 69 :: 70 :: 71 :: 72 :: 73 :: 74 :: 75 :: 76 :: 77 :: 78 :: 79 :: 80 :: 81 :: 82 :: 83 :: 84 :: 85 :: 86 :: 87 :: 88 :: 89 :: 90 :: 91 :: []) (fun (c : Bool) => [(91, .bool c)]) (fun c w => (c = true ↔ ∃ v, l[x]? = some (v, ta, tb)) ∧ Hp E M1 [sl 104 3 (.slice oa on oc) (flatT l)] w) ?aft2 ?cut2
      case cut2 =>
        intro f4 meet
        by_cases hxl : x = l.length
        · refine Goes.regionD0 mixed (by kernel_rfl) 31 H ?_
          refine Ver.read (v := .int _ _) 0 rfl (by kernel_rfl) (fun M' L' w hM H => mvI rfl ⟨rfl, rfl⟩) ?_
          refine Ver.read (v := .slice _ _ _) 1 rfl (by kernel_rfl) (fun M' L' w hM H => mvL rfl ⟨rfl, rfl⟩) ?_
          refine Ver.read (v := .int _ _) 2 rfl (by kernel_rfl) (fun M' L' w hM H => r_lenSlice tt29 rfl ⟨rfl, rfl⟩) ?_
          refine Ver.read (v := .bool _) 3 rfl (by kernel_rfl) (fun M' L' w hM H => r_lssF rfl rfl (by first | omega | (dsimp only; omega)) ⟨rfl, rfl⟩) ?_
          refine Ver.read (v := .bool _) 4 rfl (by kernel_rfl) (fun M' L' w hM H => mvB rfl ⟨rfl, rfl⟩) ?_
          refine Ver.readN 5 rfl (by kernel_rfl) (by intro e; cases e) ?_
          refine Ver.readN 6 rfl (by kernel_rfl) (by intro e; cases e) ?_
          refine Ver.readN 7 rfl (by kernel_rfl) (by intro e; cases e) ?_
          refine Ver.readN 8 rfl (by kernel_rfl) (by intro e; cases e) ?_
          refine Ver.readN 9 rfl (by kernel_rfl) (by intro e; cases e) ?_
          refine Ver.readN 10 rfl (by kernel_rfl) (by intro e; cases e) ?_
          refine Ver.readN 11 rfl (by kernel_rfl) (by intro e; cases e) ?_
          refine Ver.readN 12 rfl (by kernel_rfl) (by intro e; cases e) ?_
          refine Ver.readN 13 rfl (by kernel_rfl) (by intro e; cases e) ?_
          refine Ver.readN 14 rfl (by kernel_rfl) (by intro e; cases e) ?_
          refine Ver.readN 15 rfl (by kernel_rfl) (by intro e; cases e) ?_
          refine Ver.read (v := .bool _) 16 rfl (by kernel_rfl) (fun M' L' w hM H => r_pickF (v := .bool false) rfl rfl ⟨rfl, rfl⟩) ?_
          refine Ver.read (v := .bool _) 17 rfl (by kernel_rfl) (fun M' L' w hM H => mvB rfl ⟨rfl, rfl⟩) ?_
          refine Ver.readN 18 rfl (by kernel_rfl) (by intro e; cases e) ?_
          refine Ver.readN 19 rfl (by kernel_rfl) (by intro e; cases e) ?_
          refine Ver.readN 20 rfl (by kernel_rfl) (by intro e; cases e) ?_
          refine Ver.readN 21 rfl (by kernel_rfl) (by intro e; cases e) ?_
          refine Ver.readN 22 rfl (by kernel_rfl) (by intro e; cases e) ?_
          refine Ver.readN 23 rfl (by kernel_rfl) (by intro e; cases e) ?_
          refine Ver.readN 24 rfl (by kernel_rfl) (by intro e; cases e) ?_
          refine Ver.readN 25 rfl (by kernel_rfl) (by intro e; cases e) ?_
          refine Ver.readN 26 rfl (by kernel_rfl) (by intro e; cases e) ?_
          refine Ver.readN 27 rfl (by kernel_rfl) (by intro e; cases e) ?_
          refine Ver.readN 28 rfl (by kernel_rfl) (by intro e; cases e) ?_
          refine Ver.read (v := .bool _) 29 rfl (by kernel_rfl) (fun M' L' w hM H => r_pickF (v := .bool false) rfl rfl ⟨rfl, rfl⟩) ?_
          refine Ver.fin0 (by kernel_rfl) ?_
          clear H; intro w H
          exact meet false _ _ ⟨rfl, trivial⟩ (.of_strip (by kernel_rfl)) ⟨⟨(fun h => by cases h), fun ⟨v, hv⟩ => by rw [List.getElem?_eq_none (by omega)] at hv; cases hv⟩, H⟩
        · obtain ⟨⟨lv, la, lb⟩, hlx⟩ : ∃ t, l[x]? = some t := ⟨l[x], List.getElem?_eq_getElem (by omega)⟩
          obtain ⟨hl0, hl1, hl2⟩ := flatT_get hlx
          dsimp only at hl0 hl1 hl2
          obtain ⟨ob, rfl⟩ := hoa (by omega)
          by_cases hA : la = ta
          · subst hA
            refine Goes.regionD0 mixed (by kernel_rfl) 31 H ?_
            refine Ver.read (v := .int _ _) 0 rfl (by kernel_rfl) (fun M' L' w hM H => mvI rfl ⟨rfl, rfl⟩) ?_
            refine Ver.read (v := .slice _ _ _) 1 rfl (by kernel_rfl) (fun M' L' w hM H => mvL rfl ⟨rfl, rfl⟩) ?_
            refine Ver.read (v := .int _ _) 2 rfl (by kernel_rfl) (fun M' L' w hM H => r_lenSlice tt29 rfl ⟨rfl, rfl⟩) ?_
            refine Ver.read (v := .bool _) 3 rfl (by kernel_rfl) (fun M' L' w hM H => r_lssT rfl rfl (by first | omega | (dsimp only; omega)) ⟨rfl, rfl⟩) ?_
            refine Ver.read (v := .bool _) 4 rfl (by kernel_rfl) (fun M' L' w hM H => mvB rfl ⟨rfl, rfl⟩) ?_
            refine Ver.readY (v := .slice _ _ _) 5 rfl (by kernel_rfl) rfl (fun M' L' w hM H => mvL rfl ⟨rfl, rfl⟩) ?_
            refine Ver.readY (v := .int _ _) 6 rfl (by kernel_rfl) rfl (fun M' L' w hM H => mvI rfl ⟨rfl, rfl⟩) ?_
            refine Ver.readY (v := .pointer _) 7 rfl (by kernel_rfl) rfl (fun M' L' w hM H => r_indexAddrN tt29 tt104 rfl rfl (by first | omega | (dsimp only; omega)) ⟨rfl, rfl⟩) ?_
            first | refine Ver.readY (v := .pointer _) 8 rfl (by kernel_rfl) rfl (fun M' L' w hM H => r_fieldAddr0 fo104_1 rfl ⟨rfl, rfl⟩) ?_ | refine Ver.readY (v := .pointer _) 8 rfl (by kernel_rfl) rfl (fun M' L' w hM H => r_fieldAddr fo104_1 rfl ⟨rfl, rfl⟩) ?_
            refine Ver.readY (v := .int _ _) 9 rfl (by kernel_rfl) rfl (fun M' L' w hM H => r_ldSl (v := iv la) tt3 rfl H .head rfl (by rw [Nat.zero_add]; exact hl1) ⟨rfl, rfl⟩) ?_
            refine Ver.readY (v := .slice _ _ _) 10 rfl (by kernel_rfl) rfl (fun M' L' w hM H => mvL rfl ⟨rfl, rfl⟩) ?_
            refine Ver.readY (v := .int _ _) 11 rfl (by kernel_rfl) rfl (fun M' L' w hM H => mvI rfl ⟨rfl, rfl⟩) ?_
            refine Ver.readY (v := .pointer _) 12 rfl (by kernel_rfl) rfl (fun M' L' w hM H => r_indexAddrN tt29 tt104 rfl rfl hin ⟨rfl, rfl⟩) ?_
            first | refine Ver.readY (v := .pointer _) 13 rfl (by kernel_rfl) rfl (fun M' L' w hM H => r_fieldAddr0 fo104_1 rfl ⟨rfl, rfl⟩) ?_ | refine Ver.readY (v := .pointer _) 13 rfl (by kernel_rfl) rfl (fun M' L' w hM H => r_fieldAddr fo104_1 rfl ⟨rfl, rfl⟩) ?_
            refine Ver.readY (v := .int _ _) 14 rfl (by kernel_rfl) rfl (fun M' L' w hM H => ldI tt3 rfl (H.ro (hM _ _ hMq1)) hc1 ⟨rfl, rfl⟩) ?_
            refine Ver.readY (v := .bool _) 15 rfl (by kernel_rfl) rfl (fun M' L' w hM H => r_eqlT rfl rfl rfl ⟨rfl, rfl⟩) ?_
            refine Ver.read (v := .bool _) 16 rfl (by kernel_rfl) (fun M' L' w hM H => r_pickT (v := .bool true) rfl rfl ⟨rfl, rfl⟩) ?_
            refine Ver.read (v := .bool _) 17 rfl (by kernel_rfl) (fun M' L' w hM H => mvB rfl ⟨rfl, rfl⟩) ?_
            refine Ver.readY (v := .slice _ _ _) 18 rfl (by kernel_rfl) rfl (fun M' L' w hM H => mvL rfl ⟨rfl, rfl⟩) ?_
            refine Ver.readY (v := .int _ _) 19 rfl (by kernel_rfl) rfl (fun M' L' w hM H => mvI rfl ⟨rfl, rfl⟩) ?_
            refine Ver.readY (v := .pointer _) 20 rfl (by kernel_rfl) rfl (fun M' L' w hM H => r_indexAddrN tt29 tt104 rfl rfl (by first | omega | (dsimp only; omega)) ⟨rfl, rfl⟩) ?_
            first | refine Ver.readY (v := .pointer _) 21 rfl (by kernel_rfl) rfl (fun M' L' w hM H => r_fieldAddr0 fo104_2 rfl ⟨rfl, rfl⟩) ?_ | refine Ver.readY (v := .pointer _) 21 rfl (by kernel_rfl) rfl (fun M' L' w hM H => r_fieldAddr fo104_2 rfl ⟨rfl, rfl⟩) ?_
            refine Ver.readY (v := .int _ _) 22 rfl (by kernel_rfl) rfl (fun M' L' w hM H => r_ldSl (v := iv lb) tt3 rfl H .head rfl (by rw [Nat.zero_add]; exact hl2) ⟨rfl, rfl⟩) ?_
            refine Ver.readY (v := .slice _ _ _) 23 rfl (by kernel_rfl) rfl (fun M' L' w hM H => mvL rfl ⟨rfl, rfl⟩) ?_
            refine Ver.readY (v := .int _ _) 24 rfl (by kernel_rfl) rfl (fun M' L' w hM H => mvI rfl ⟨rfl, rfl⟩) ?_
            refine Ver.readY (v := .pointer _) 25 rfl (by kernel_rfl) rfl (fun M' L' w hM H => r_indexAddrN tt29 tt104 rfl rfl hin ⟨rfl, rfl⟩) ?_
            first | refine Ver.readY (v := .pointer _) 26 rfl (by kernel_rfl) rfl (fun M' L' w hM H => r_fieldAddr0 fo104_2 rfl ⟨rfl, rfl⟩) ?_ | refine Ver.readY (v := .pointer _) 26 rfl (by kernel_rfl) rfl (fun M' L' w hM H => r_fieldAddr fo104_2 rfl ⟨rfl, rfl⟩) ?_
            refine Ver.readY (v := .int _ _) 27 rfl (by kernel_rfl) rfl (fun M' L' w hM H => ldI tt3 rfl (H.ro (hM _ _ hMq1)) hc2 ⟨rfl, rfl⟩) ?_
            refine Ver.readY (v := .bool _) 28 rfl (by kernel_rfl) rfl (fun M' L' w hM H => r_eql rfl rfl ⟨rfl, rfl⟩) ?_
            refine Ver.read (v := .bool _) 29 rfl (by kernel_rfl) (fun M' L' w hM H => r_pickT (v := .bool _) rfl rfl ⟨rfl, rfl⟩) ?_
            refine Ver.fin0 (by kernel_rfl) ?_
            clear H; intro w H
            refine meet _ _ _ ⟨rfl, trivial⟩ (.of_strip (by kernel_rfl)) ⟨?_, H⟩
            rw [hlx]
            constructor
            · intro h; have : lb = tb := by have : (lb : Int) = tb := by simpa using h
                                            omega
              subst this; exact ⟨_, rfl⟩
            · rintro ⟨v, hv⟩; cases hv; simp
          · refine Goes.regionD0 mixed (by kernel_rfl) 31 H ?_
            refine Ver.read (v := .int _ _) 0 rfl (by kernel_rfl) (fun M' L' w hM H => mvI rfl ⟨rfl, rfl⟩) ?_
            refine Ver.read (v := .slice _ _ _) 1 rfl (by kernel_rfl) (fun M' L' w hM H => mvL rfl ⟨rfl, rfl⟩) ?_
            refine Ver.read (v := .int _ _) 2 rfl (by kernel_rfl) (fun M' L' w hM H => r_lenSlice tt29 rfl ⟨rfl, rfl⟩) ?_
            refine Ver.read (v := .bool _) 3 rfl (by kernel_rfl) (fun M' L' w hM H => r_lssT rfl rfl (by first | omega | (dsimp only; omega)) ⟨rfl, rfl⟩) ?_
            refine Ver.read (v := .bool _) 4 rfl (by kernel_rfl) (fun M' L' w hM H => mvB rfl ⟨rfl, rfl⟩) ?_
            refine Ver.readY (v := .slice _ _ _) 5 rfl (by kernel_rfl) rfl (fun M' L' w hM H => mvL rfl ⟨rfl, rfl⟩) ?_
            refine Ver.readY (v := .int _ _) 6 rfl (by kernel_rfl) rfl (fun M' L' w hM H => mvI rfl ⟨rfl, rfl⟩) ?_
            refine Ver.readY (v := .pointer _) 7 rfl (by kernel_rfl) rfl (fun M' L' w hM H => r_indexAddrN tt29 tt104 rfl rfl (by first | omega | (dsimp only; omega)) ⟨rfl, rfl⟩) ?_
            first | refine Ver.readY (v := .pointer _) 8 rfl (by kernel_rfl) rfl (fun M' L' w hM H => r_fieldAddr0 fo104_1 rfl ⟨rfl, rfl⟩) ?_ | refine Ver.readY (v := .pointer _) 8 rfl (by kernel_rfl) rfl (fun M' L' w hM H => r_fieldAddr fo104_1 rfl ⟨rfl, rfl⟩) ?_
            refine Ver.readY (v := .int _ _) 9 rfl (by kernel_rfl) rfl (fun M' L' w hM H => r_ldSl (v := iv la) tt3 rfl H .head rfl (by rw [Nat.zero_add]; exact hl1) ⟨rfl, rfl⟩) ?_
            refine Ver.readY (v := .slice _ _ _) 10 rfl (by kernel_rfl) rfl (fun M' L' w hM H => mvL rfl ⟨rfl, rfl⟩) ?_
            refine Ver.readY (v := .int _ _) 11 rfl (by kernel_rfl) rfl (fun M' L' w hM H => mvI rfl ⟨rfl, rfl⟩) ?_
            refine Ver.readY (v := .pointer _) 12 rfl (by kernel_rfl) rfl (fun M' L' w hM H => r_indexAddrN tt29 tt104 rfl rfl hin ⟨rfl, rfl⟩) ?_
            first | refine Ver.readY (v := .pointer _) 13 rfl (by kernel_rfl) rfl (fun M' L' w hM H => r_fieldAddr0 fo104_1 rfl ⟨rfl, rfl⟩) ?_ | refine Ver.readY (v := .pointer _) 13 rfl (by kernel_rfl) rfl (fun M' L' w hM H => r_fieldAddr fo104_1 rfl ⟨rfl, rfl⟩) ?_
            refine Ver.readY (v := .int _ _) 14 rfl (by kernel_rfl) rfl (fun M' L' w hM H => ldI tt3 rfl (H.ro (hM _ _ hMq1)) hc1 ⟨rfl, rfl⟩) ?_
            refine Ver.readY (v := .bool _) 15 rfl (by kernel_rfl) rfl (fun M' L' w hM H => r_eqlF rfl rfl (by first | omega | (dsimp only; omega)) ⟨rfl, rfl⟩) ?_
            refine Ver.read (v := .bool _) 16 rfl (by kernel_rfl) (fun M' L' w hM H => r_pickT (v := .bool false) rfl rfl ⟨rfl, rfl⟩) ?_
            refine Ver.read (v := .bool _) 17 rfl (by kernel_rfl) (fun M' L' w hM H => mvB rfl ⟨rfl, rfl⟩) ?_
            refine Ver.readN 18 rfl (by kernel_rfl) (by intro e; cases e) ?_
            refine Ver.readN 19 rfl (by kernel_rfl) (by intro e; cases e) ?_
            refine Ver.readN 20 rfl (by kernel_rfl) (by intro e; cases e) ?_
            refine Ver.readN 21 rfl (by kernel_rfl) (by intro e; cases e) ?_
            refine Ver.readN 22 rfl (by kernel_rfl) (by intro e; cases e) ?_
            refine Ver.readN 23 rfl (by kernel_rfl) (by intro e; cases e) ?_
            refine Ver.readN 24 rfl (by kernel_rfl) (by intro e; cases e) ?_
            refine Ver.readN 25 rfl (by kernel_rfl) (by intro e; cases e) ?_
            refine Ver.readN 26 rfl (by kernel_rfl) (by intro e; cases e) ?_
            refine Ver.readN 27 rfl (by kernel_rfl) (by intro e; cases e) ?_
            refine Ver.readN 28 rfl (by kernel_rfl) (by intro e; cases e) ?_
            refine Ver.read (v := .bool _) 29 rfl (by kernel_rfl) (fun M' L' w hM H => r_pickF (v := .bool false) rfl rfl ⟨rfl, rfl⟩) ?_
            refine Ver.fin0 (by kernel_rfl) ?_
            clear H; intro w H
            refine meet false _ _ ⟨rfl, trivial⟩ (.of_strip (by kernel_rfl)) ⟨⟨(fun h => by cases h), fun ⟨v, hv⟩ => ?_⟩, H⟩
            rw [hlx] at hv; cases hv; exact absurd rfl hA
      case aft2 =>
        clear H
        rintro c f5 w ⟨hcc, H⟩
        have hfg2 := hfg ta tb
        have hle2 : addT f g (lq.take i) ta tb + g ta tb = addT f g (lq.take (i + 1)) ta tb := by
          have := congrFun (congrFun (addT_step (acc := f) hqr ht) ta) tb
          rw [← this]; simp [upd]
        have hstep := addT_step (acc := f) hqr ht
        dsimp only at hstep
        refine Goes.cond rfl (fun hc2 => ?_) (fun hc2 => ?_)
        · obtain ⟨lv, hlx⟩ := hcc.1 hc2
          obtain ⟨hl0, hl1, hl2⟩ := flatT_get hlx
          dsimp only at hl0 hl1 hl2
          have hxl : x < l.length := by
            rcases Nat.lt_or_ge x l.length with h' | h'
            · exact h'
            · rw [List.getElem?_eq_none h'] at hlx; cases hlx
          obtain ⟨ob, rfl⟩ := hoa (by omega)
          obtain ⟨_, hlv⟩ := hr.val _ (List.mem_of_getElem? hlx)
          dsimp only at hlv
          obtain ⟨ln, lnn, lnc, rfl⟩ := hlv.shape
          have hb1 : addT f g (lq.take i) ta tb ≤ addT f g (lq.take (i + 1)) ta tb := by omega
          have hb2 := addT_le (acc := f) (g := g) (l := lq.take (i + 1)) ta tb
          refine Goes.seq ?_
          refine Goes.regionD0 mixed (by kernel_rfl) 17 H ?_
          refine Ver.read (v := .slice _ _ _) 0 rfl (by kernel_rfl) (fun M' L' w hM H => mvL rfl ⟨rfl, rfl⟩) ?_
          refine Ver.read (v := .int _ _) 1 rfl (by kernel_rfl) (fun M' L' w hM H => mvI rfl ⟨rfl, rfl⟩) ?_
          refine Ver.read (v := .slice _ _ _) 2 rfl (by kernel_rfl) (fun M' L' w hM H => mvL rfl ⟨rfl, rfl⟩) ?_
          refine Ver.read (v := .int _ _) 3 rfl (by kernel_rfl) (fun M' L' w hM H => mvI rfl ⟨rfl, rfl⟩) ?_
          refine Ver.read (v := .pointer _) 4 rfl (by kernel_rfl) (fun M' L' w hM H => r_indexAddrN tt29 tt104 rfl rfl (by first | omega | (dsimp only; omega)) ⟨rfl, rfl⟩) ?_
          first | refine Ver.read (v := .pointer _) 5 rfl (by kernel_rfl) (fun M' L' w hM H => r_fieldAddr0 fo104_0 rfl ⟨rfl, rfl⟩) ?_ | refine Ver.read (v := .pointer _) 5 rfl (by kernel_rfl) (fun M' L' w hM H => r_fieldAddr fo104_0 rfl ⟨rfl, rfl⟩) ?_
          refine Ver.read (v := .slice _ _ _) 6 rfl (by kernel_rfl) (fun M' L' w hM H => r_ldSl (v := .slice ln lnn lnc) tt55 rfl H .head rfl (by rw [Nat.zero_add]; exact hl0) ⟨rfl, rfl⟩) ?_
          refine Ver.read (v := .slice _ _ _) 7 rfl (by kernel_rfl) (fun M' L' w hM H => mvL rfl ⟨rfl, rfl⟩) ?_
          refine Ver.read (v := .int _ _) 8 rfl (by kernel_rfl) (fun M' L' w hM H => mvI rfl ⟨rfl, rfl⟩) ?_
          refine Ver.read (v := .pointer _) 9 rfl (by kernel_rfl) (fun M' L' w hM H => r_indexAddrN tt29 tt104 rfl rfl hin ⟨rfl, rfl⟩) ?_
          first | refine Ver.read (v := .pointer _) 10 rfl (by kernel_rfl) (fun M' L' w hM H => r_fieldAddr0 fo104_0 rfl ⟨rfl, rfl⟩) ?_ | refine Ver.read (v := .pointer _) 10 rfl (by kernel_rfl) (fun M' L' w hM H => r_fieldAddr fo104_0 rfl ⟨rfl, rfl⟩) ?_
          refine Ver.read (v := .slice _ _ _) 11 rfl (by kernel_rfl) (fun M' L' w hM H => ldL tt55 rfl (H.ro (hM _ _ hMq1)) hc0 ⟨rfl, rfl⟩) ?_
          refine Ver.next0 12 (by kernel_rfl) rfl (by kernel_rfl) ?_
          clear H; intro w H
          refine r_call cc69 (radd_spec hlv hgv1 (k := k) (l := k) (by first | omega | (dsimp only; omega)) (by first | omega | (dsimp only; omega)) (by first | omega | (dsimp only; omega)) (by first | omega | (dsimp only; omega))) H ?_
          clear H; rintro v104 M104 L104 w hM104 ⟨rfl, h104⟩ H
          refine ⟨_, hM104, H, ?_⟩
          refine Ver.read (v := .pointer _) 13 rfl (by kernel_rfl) (fun M' L' w hM H => r_indexAddrN tt29 tt104 rfl rfl (by first | omega | (dsimp only; omega)) ⟨rfl, rfl⟩) ?_
          first | refine Ver.read (v := .pointer _) 14 rfl (by kernel_rfl) (fun M' L' w hM H => r_fieldAddr0 fo104_0 rfl ⟨rfl, rfl⟩) ?_ | refine Ver.read (v := .pointer _) 14 rfl (by kernel_rfl) (fun M' L' w hM H => r_fieldAddr fo104_0 rfl ⟨rfl, rfl⟩) ?_
          refine Ver.bar0 15 (by kernel_rfl) rfl (by kernel_rfl) ?_
          clear H; intro w H
          obtain ⟨sn, snn, snc, rfl⟩ := h104.shape; refine r_stSl tt55 rfl rfl H .head rfl (by first | omega | (dsimp only; omega)) ?_; clear H; intro w H
          refine ⟨_, _, RO.le.refl _, H, ?_⟩
          refine Ver.fin0 (by kernel_rfl) ?_
          clear H; intro w H
          refine Goes.exit rfl (Goes.region ?_)
          refine GoL.stepS rfl rfl (mvI rfl ?_)
          first | refine GoL.stepS rfl rfl (r_addI rfl rfl (by first | omega | (dsimp only; omega)) (by first | omega | (dsimp only; omega)) ?_) | refine GoL.stepS rfl rfl (r_add rfl rfl ?_)
          refine GoL.stepS rfl rfl (asI rfl ?_)
          refine GoL.nil ?_
          refine again (i + 1, l.set x (.slice sn snn snc, ta, tb), (some ⟨ob, 0, none⟩, on, oc), M104) _ _ ⟨rfl, rfl, trivial⟩ (.of_strip (by kernel_rfl)) ⟨by first | omega | (dsimp only; omega), by dsimp only; rw [List.length_set]; exact hon, hoc, by dsimp only; rw [List.length_set]; omega, hM1.trans hM104, ?_, ?_⟩ (by first | omega | (dsimp only; omega))
          · dsimp only
            rw [← hstep]
            exact (hr.mono hM104).update hlx h104 (by omega)
          · dsimp only
            rw [← flatT_set hlx, Nat.zero_add] at *
            exact H
        · have hnq : ¬ ∃ v, l[x]? = some (v, ta, tb) := by
            intro h; have := hcc.2 h; rw [hc2] at this; cases this
          have habove : ∀ t ∈ l.drop x, kl (ta, tb) t.2 := by
            intro t ht
            have hxl : x < l.length := by
              rcases Nat.lt_or_ge x l.length with h' | h'
              · exact h'
              · rw [List.drop_of_length_le h'] at ht; cases ht
            obtain ⟨⟨lv, lab⟩, hlx, hnk⟩ := hnot hxl
            have hlt : kl (ta, tb) lab := kl.tri hnk fun h => hnq ⟨lv, by rw [hlx, ← h]⟩
            have hdr : l.drop x = (lv, lab) :: l.drop (x + 1) := by
              rw [List.drop_eq_getElem_cons hxl]
              congr 1
              rw [List.getElem?_eq_getElem hxl] at hlx; exact Option.some.inj hlx
            have hasc := hr.asc
            rw [← List.take_append_drop x l, hdr] at hasc
            have h2 := (List.pairwise_cons.1 (List.pairwise_append.1 hasc).2.1).1
            rw [hdr] at ht
            rcases List.mem_cons.1 ht with rfl | ht
            · exact hlt
            · exact hlt.trans (h2 t ht)
          have hins := ((List.take_append_drop x l).symm ▸ hr : RepT M1 (addT f g (lq.take i)) (l.take x ++ l.drop x)).insert (a := ta) (b := tb) hbelow habove hgv1 hg0 hbox.1 hbox.2
          obtain ⟨hz, hins⟩ := hins
          rw [hz, Nat.zero_add] at hstep
          rw [hstep] at hins
          obtain ⟨M2, a2, n2, c2, heq2, hl2', hcap2, hrow2, hle2', H⟩ := H.freezeSl .head
          cases heq2
          have hrowT : RoRow M2 oa (flatT (l.take x)) := by rw [← flatT_take]; exact hrow2.take _
          have ftake := flatT_length (l.take x)
          have fdrop := flatT_length (l.drop x)
          have hlt : (l.take x).length = x := by rw [List.length_take]; omega
          have hld : (l.drop x).length = l.length - x := by rw [List.length_drop]
          have hone : ∀ l' : List T3, (∀ t ∈ l', t ∈ l) → (flatT l').all oneCell = true := fun l' hl' => by
            rw [List.all_eq_true]
            intro y hy
            obtain ⟨t, ht, hy⟩ := List.mem_flatMap.1 hy
            obtain ⟨a, n, c, he⟩ := (hr.val t (hl' t ht)).2.shape
            simp only [encT, List.mem_cons, List.not_mem_nil, or_false] at hy
            rcases hy with rfl | rfl | rfl
            · rw [he]; rfl
            · rfl
            · rfl
          have hone1 := hone (l.take x) fun t ht => List.mem_of_mem_take ht
          have hone2 := hone (l.drop x) fun t ht => List.mem_of_mem_drop ht
          refine Goes.skip ?_
          refine Goes.regionDX mixed (by kernel_rfl) 17 H ?_
          refine Ver.read (v := .slice _ _ _) 1 rfl (by kernel_rfl) (fun M' L' w hM H => mvL rfl ⟨rfl, rfl⟩) ?_
          refine Ver.read (v := .int _ _) 2 rfl (by kernel_rfl) (fun M' L' w hM H => mvI rfl ⟨rfl, rfl⟩) ?_
          refine Ver.read (v := .slice _ _ _) 3 rfl (by kernel_rfl) (fun M' L' w hM H => r_slTo tt29 tt104 rfl rfl (by first | omega | (dsimp only; omega)) ⟨rfl, rfl⟩) ?_
          refine Ver.read (v := .slice _ _ _) 5 rfl (by kernel_rfl) (fun M' L' w hM H => mvL rfl ⟨rfl, rfl⟩) ?_
          refine Ver.read (v := .int _ _) 6 rfl (by kernel_rfl) (fun M' L' w hM H => mvI rfl ⟨rfl, rfl⟩) ?_
          refine Ver.read (v := .pointer _) 7 rfl (by kernel_rfl) (fun M' L' w hM H => r_indexAddrN tt29 tt104 rfl rfl hin ⟨rfl, rfl⟩) ?_
          refine Ver.read (v := (.agg #[.slice na nn nc, iv ta, iv tb])) 8 rfl (by kernel_rfl) (fun M' L' w hM H => r_load (v := .agg #[.slice na nn nc, iv ta, iv tb]) tt104 rfl (H.ro (hM _ _ (hle2' _ _ hMq1))) (rd_aggE rfl hq3s hq3) ⟨rfl, rfl⟩) ?_
          refine Ver.read (v := .slice _ _ _) 11 rfl (by kernel_rfl) (fun M' L' w hM H => mvL rfl ⟨rfl, rfl⟩) ?_
          refine Ver.read (v := .int _ _) 12 rfl (by kernel_rfl) (fun M' L' w hM H => mvI rfl ⟨rfl, rfl⟩) ?_
          refine Ver.read (v := .slice _ _ _) 13 rfl (by kernel_rfl) (fun M' L' w hM H => r_sliceSl (lo := some (.tmp 119)) (hi := none) (l := x) (h' := on) tt29 tt104 rfl ⟨_, rfl⟩ rfl (by first | omega | (dsimp only; omega)) hoc ⟨rfl, rfl⟩) ?_
          refine Ver.nextsX2 0 9 (by kernel_rfl) rfl rfl (by kernel_rfl) (by kernel_rfl) rfl rfl ?_ ?_
          · clear H; intro w H
            refine r_bsl (cells := []) tt29 tt104 rfl (by rfl) H ?_; clear H; intro b107 w hb107 H; replace H := H.subst .head (sl_of_pt (e := 104) (ne := 3) (b := b107) (len := 0) (cap := 0) (c := #[]) rfl (Nat.le_refl _))
            refine ⟨_, _, RO.le.refl _, H, ?_⟩
            refine Ver.nextsX2 4 9 (by kernel_rfl) rfl rfl (by kernel_rfl) (by kernel_rfl) rfl rfl ?_ ?_
            · clear H; intro w H
              refine r_append tt29 tt104 tt29 (by intro k hk; cases hk) rfl rfl rfl H (by repeat constructor) (srcCells.ro H hrowT (by first | omega | (dsimp only; omega)) (by decide)) hone1 (by show 0 / 3 + _ ≤ _; omega) (by decide) (by decide) ?_; clear H; intro v111 w H
              refine ⟨_, _, RO.le.refl _, H, ?_⟩
              refine Ver.nextX 9 (by kernel_rfl) rfl (by kernel_rfl) ?_
              clear H; intro w H
              refine r_bsl (cells := [.slice na nn nc, iv ta, iv tb]) tt29 tt104 rfl (by rfl) H ?_; clear H; intro b116 w hb116 H
              refine ⟨_, _, RO.le.refl _, H, ?_⟩
              refine Ver.nextX 10 (by kernel_rfl) rfl (by kernel_rfl) ?_
              clear H; intro w H
              refine r_appendO (m := 1) tt29 tt104 tt29 (by intro k hk; cases hk) rfl rfl rfl H (by repeat constructor) (by repeat constructor) rfl rfl rfl rfl (by show (flatT (l.take x)).length / 3 + 1 ≤ _; omega) ?_; clear H; intro v117 w H
              refine ⟨_, _, RO.le.refl _, H, ?_⟩
              refine Ver.nextX 14 (by kernel_rfl) rfl (by kernel_rfl) ?_
              clear H; intro w H
              refine r_append tt29 tt104 tt29 (by intro k hk; cases hk) rfl rfl rfl H (by repeat constructor) (srcCells.ro H (hrow2.drop (l := x) (by first | omega | (dsimp only; omega)) (by first | omega | (dsimp only; omega)) hoc) (by rw [flatT_drop, fdrop, hld, hon]) (by decide)) (by rw [flatT_drop]; exact hone2) (by show (flatT (l.take x) ++ _).length / 3 + _ ≤ _; rw [List.length_append, ftake]; show (_ + 3) / 3 + _ ≤ _; omega) (by decide) (by decide) ?_; clear H; intro v121 w H
              refine ⟨_, _, RO.le.refl _, H, ?_⟩
              refine Ver.nextX 15 (by kernel_rfl) rfl (by kernel_rfl) ?_
              clear H; intro w H
              refine r_as (v := v121) rfl ?_
              refine ⟨_, _, RO.le.refl _, H, ?_⟩
              refine Ver.finX (by kernel_rfl) ?_
              clear H; intro w H
              refine Goes.inBlock (Goes.region ?_)
              refine GoL.stepS rfl rfl (mvI rfl ?_)
              first | refine GoL.stepS rfl rfl (r_addI rfl rfl (by first | omega | (dsimp only; omega)) (by first | omega | (dsimp only; omega)) ?_) | refine GoL.stepS rfl rfl (r_add rfl rfl ?_)
              refine GoL.stepS rfl rfl (asI rfl ?_)
              refine GoL.nil ?_
              have H : Hp E M2 [sl 104 3 v121 (flatT (l.take x) ++ [.slice na nn nc, iv ta, iv tb] ++ (flatT l).drop (x * 3))] w := H.sel (.cons (by repeat constructor) .nil)
              have ef : flatT (l.take x) ++ [.slice na nn nc, iv ta, iv tb] ++ (flatT l).drop (x * 3) = flatT (l.take x ++ (.slice na nn nc, ta, tb) :: l.drop x) := by
                rw [flatT_drop, flatT_append, List.append_assoc]; rfl
              rw [ef] at H
              obtain ⟨a9, n9, c9, rfl, hl9, hc9, _⟩ := H.slShape .head
              rw [flatT_length] at hl9
              have hlen9 : (l.take x ++ (Value.slice na nn nc, ta, tb) :: l.drop x).length = l.length + 1 := by rw [List.length_append, List.length_cons]; omega
              exact again (i + 1, l.take x ++ (.slice na nn nc, ta, tb) :: l.drop x, (a9, n9, c9), M2) _ _ ⟨rfl, rfl, trivial⟩ (.of_strip (by kernel_rfl)) ⟨by first | omega | (dsimp only; omega), by dsimp only; omega, hc9, by dsimp only; omega, hM1.trans hle2', hins.mono hle2', H⟩ (by first | omega | (dsimp only; omega))
            · clear H; intro w H
              refine r_bsl (cells := [.slice na nn nc, iv ta, iv tb]) tt29 tt104 rfl (by rfl) H ?_; clear H; intro b116 w hb116 H
              refine ⟨_, _, RO.le.refl _, H, ?_⟩
              refine Ver.nextX 4 (by kernel_rfl) rfl (by kernel_rfl) ?_
              clear H; intro w H
              refine r_append tt29 tt104 tt29 (by intro k hk; cases hk) rfl rfl rfl H (by repeat constructor) (srcCells.ro H hrowT (by first | omega | (dsimp only; omega)) (by decide)) hone1 (by show 0 / 3 + _ ≤ _; omega) (by decide) (by decide) ?_; clear H; intro v111 w H
              refine ⟨_, _, RO.le.refl _, H, ?_⟩
              refine Ver.nextX 10 (by kernel_rfl) rfl (by kernel_rfl) ?_
              clear H; intro w H
              refine r_appendO (m := 1) tt29 tt104 tt29 (by intro k hk; cases hk) rfl rfl rfl H (by repeat constructor) (by repeat constructor) rfl rfl rfl rfl (by show (flatT (l.take x)).length / 3 + 1 ≤ _; omega) ?_; clear H; intro v117 w H
              refine ⟨_, _, RO.le.refl _, H, ?_⟩
              refine Ver.nextX 14 (by kernel_rfl) rfl (by kernel_rfl) ?_
              clear H; intro w H
              refine r_append tt29 tt104 tt29 (by intro k hk; cases hk) rfl rfl rfl H (by repeat constructor) (srcCells.ro H (hrow2.drop (l := x) (by first | omega | (dsimp only; omega)) (by first | omega | (dsimp only; omega)) hoc) (by rw [flatT_drop, fdrop, hld, hon]) (by decide)) (by rw [flatT_drop]; exact hone2) (by show (flatT (l.take x) ++ _).length / 3 + _ ≤ _; rw [List.length_append, ftake]; show (_ + 3) / 3 + _ ≤ _; omega) (by decide) (by decide) ?_; clear H; intro v121 w H
              refine ⟨_, _, RO.le.refl _, H, ?_⟩
              refine Ver.nextX 15 (by kernel_rfl) rfl (by kernel_rfl) ?_
              clear H; intro w H
              refine r_as (v := v121) rfl ?_
              refine ⟨_, _, RO.le.refl _, H, ?_⟩
              refine Ver.finX (by kernel_rfl) ?_
              clear H; intro w H
              refine Goes.inBlock (Goes.region ?_)
              refine GoL.stepS rfl rfl (mvI rfl ?_)
              first | refine GoL.stepS rfl rfl (r_addI rfl rfl (by first | omega | (dsimp only; omega)) (by first | omega | (dsimp only; omega)) ?_) | refine GoL.stepS rfl rfl (r_add rfl rfl ?_)
              refine GoL.stepS rfl rfl (asI rfl ?_)
              refine GoL.nil ?_
              have H : Hp E M2 [sl 104 3 v121 (flatT (l.take x) ++ [.slice na nn nc, iv ta, iv tb] ++ (flatT l).drop (x * 3))] w := H.sel (.cons (by repeat constructor) .nil)
              have ef : flatT (l.take x) ++ [.slice na nn nc, iv ta, iv tb] ++ (flatT l).drop (x * 3) = flatT (l.take x ++ (.slice na nn nc, ta, tb) :: l.drop x) := by
                rw [flatT_drop, flatT_append, List.append_assoc]; rfl
              rw [ef] at H
              obtain ⟨a9, n9, c9, rfl, hl9, hc9, _⟩ := H.slShape .head
              rw [flatT_length] at hl9
              have hlen9 : (l.take x ++ (Value.slice na nn nc, ta, tb) :: l.drop x).length = l.length + 1 := by rw [List.length_append, List.length_cons]; omega
              exact again (i + 1, l.take x ++ (.slice na nn nc, ta, tb) :: l.drop x, (a9, n9, c9), M2) _ _ ⟨rfl, rfl, trivial⟩ (.of_strip (by kernel_rfl)) ⟨by first | omega | (dsimp only; omega), by dsimp only; omega, hc9, by dsimp only; omega, hM1.trans hle2', hins.mono hle2', H⟩ (by first | omega | (dsimp only; omega))
          · clear H; intro w H
            refine r_bsl (cells := [.slice na nn nc, iv ta, iv tb]) tt29 tt104 rfl (by rfl) H ?_; clear H; intro b116 w hb116 H
            refine ⟨_, _, RO.le.refl _, H, ?_⟩
            refine Ver.nextX 0 (by kernel_rfl) rfl (by kernel_rfl) ?_
            clear H; intro w H
            refine r_bsl (cells := []) tt29 tt104 rfl (by rfl) H ?_; clear H; intro b107 w hb107 H; replace H := H.subst .head (sl_of_pt (e := 104) (ne := 3) (b := b107) (len := 0) (cap := 0) (c := #[]) rfl (Nat.le_refl _))
            refine ⟨_, _, RO.le.refl _, H, ?_⟩
            refine Ver.nextX 4 (by kernel_rfl) rfl (by kernel_rfl) ?_
            clear H; intro w H
            refine r_append tt29 tt104 tt29 (by intro k hk; cases hk) rfl rfl rfl H (by repeat constructor) (srcCells.ro H hrowT (by first | omega | (dsimp only; omega)) (by decide)) hone1 (by show 0 / 3 + _ ≤ _; omega) (by decide) (by decide) ?_; clear H; intro v111 w H
            refine ⟨_, _, RO.le.refl _, H, ?_⟩
            refine Ver.nextX 10 (by kernel_rfl) rfl (by kernel_rfl) ?_
            clear H; intro w H
            refine r_appendO (m := 1) tt29 tt104 tt29 (by intro k hk; cases hk) rfl rfl rfl H (by repeat constructor) (by repeat constructor) rfl rfl rfl rfl (by show (flatT (l.take x)).length / 3 + 1 ≤ _; omega) ?_; clear H; intro v117 w H
            refine ⟨_, _, RO.le.refl _, H, ?_⟩
            refine Ver.nextX 14 (by kernel_rfl) rfl (by kernel_rfl) ?_
            clear H; intro w H
            refine r_append tt29 tt104 tt29 (by intro k hk; cases hk) rfl rfl rfl H (by repeat constructor) (srcCells.ro H (hrow2.drop (l := x) (by first | omega | (dsimp only; omega)) (by first | omega | (dsimp only; omega)) hoc) (by rw [flatT_drop, fdrop, hld, hon]) (by decide)) (by rw [flatT_drop]; exact hone2) (by show (flatT (l.take x) ++ _).length / 3 + _ ≤ _; rw [List.length_append, ftake]; show (_ + 3) / 3 + _ ≤ _; omega) (by decide) (by decide) ?_; clear H; intro v121 w H
            refine ⟨_, _, RO.le.refl _, H, ?_⟩
            refine Ver.nextX 15 (by kernel_rfl) rfl (by kernel_rfl) ?_
            clear H; intro w H
            refine r_as (v := v121) rfl ?_
            refine ⟨_, _, RO.le.refl _, H, ?_⟩
            refine Ver.finX (by kernel_rfl) ?_
            clear H; intro w H
            refine Goes.inBlock (Goes.region ?_)
            refine GoL.stepS rfl rfl (mvI rfl ?_)
            first | refine GoL.stepS rfl rfl (r_addI rfl rfl (by first | omega | (dsimp only; omega)) (by first | omega | (dsimp only; omega)) ?_) | refine GoL.stepS rfl rfl (r_add rfl rfl ?_)
            refine GoL.stepS rfl rfl (asI rfl ?_)
            refine GoL.nil ?_
            have H : Hp E M2 [sl 104 3 v121 (flatT (l.take x) ++ [.slice na nn nc, iv ta, iv tb] ++ (flatT l).drop (x * 3))] w := H.sel (.cons (by repeat constructor) .nil)
            have ef : flatT (l.take x) ++ [.slice na nn nc, iv ta, iv tb] ++ (flatT l).drop (x * 3) = flatT (l.take x ++ (.slice na nn nc, ta, tb) :: l.drop x) := by
              rw [flatT_drop, flatT_append, List.append_assoc]; rfl
            rw [ef] at H
            obtain ⟨a9, n9, c9, rfl, hl9, hc9, _⟩ := H.slShape .head
            rw [flatT_length] at hl9
            have hlen9 : (l.take x ++ (Value.slice na nn nc, ta, tb) :: l.drop x).length = l.length + 1 := by rw [List.length_append, List.length_cons]; omega
            exact again (i + 1, l.take x ++ (.slice na nn nc, ta, tb) :: l.drop x, (a9, n9, c9), M2) _ _ ⟨rfl, rfl, trivial⟩ (.of_strip (by kernel_rfl)) ⟨by first | omega | (dsimp only; omega), by dsimp only; omega, hc9, by dsimp only; omega, hM1.trans hle2', hins.mono hle2', H⟩ (by first | omega | (dsimp only; omega))
  · have hin : i = lq.length := by have : ¬ (i : Int) < (lq.length : Int) := by simpa using hc
                                   omega
    subst hin
    rw [List.take_length, addT_all hqr] at hr
    obtain ⟨M2, a2, n2, c2, heq2, hl2', hcap2, hrow2, hle2', H⟩ := H.freezeSl .head
    cases heq2
    subst hon
    refine Goes.exit rfl (Goes.seq (Goes.region ?_))
    refine GoL.stepS rfl rfl (mvL rfl ?_)
    refine GoL.stepS rfl rfl (asL rfl ?_)
    refine GoL.nil ?_
    exact Goes.ret (ret1 (v := .slice _ _ _) rfl rfl rfl H.nil ⟨rfl, _, _, l, rfl, hoc, hrow2, hr.mono hle2', hll⟩)

end Go.Proofs.YtlcpdkckldlceaaGreatDoor
