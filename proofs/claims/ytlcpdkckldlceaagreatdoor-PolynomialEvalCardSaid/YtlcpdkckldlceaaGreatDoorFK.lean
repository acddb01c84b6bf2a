/-
  Parsing of numbers and of polynomials (first part).
-/
import Derived.Test.YtlcpdkckldlceaaGreatDoorFJ
import Derived.Test.YtlcpdkckldlceaaGreatDoorFC
import Derived.Test.YtlcpdkckldlceaaGreatDoorLayPar
namespace Go.Proofs.YtlcpdkckldlceaaGreatDoor
open Go.Sx Go.Nat32 Go.Dec Go.PolyL Go.Lib Go.Proofs
attribute [local irreducible] pt sl itc itm
set_option maxRecDepth 100000
set_option linter.unusedVariables false
set_option linter.unusedSimpArgs false

/-- The variable that strings.Index looks at holds some number in every world that has M. -/
def MaxM (M : RO) : Prop := ∃ c e z m, M 1 = some (.cells c e z) ∧ c[0]? = some (.int .i64 m)
theorem MaxM.mono {M M' : RO} (h : MaxM M) (hM : M.le M') : MaxM M' := let ⟨c, e, z, m, h1, h2⟩ := h; ⟨c, e, z, m, hM _ _ h1, h2⟩

theorem hasPrefix_spec {M : RO} {s p : List UInt8} : Sp Tryz.prog 86 [st s, st p] M [] fun r M' L' => L' = [] ∧ M' = M ∧ r = .bool (p.isPrefixOf s) := by
  intro E hE H
  refine (Tryz.strings_HasPrefix ⟨s.toArray⟩ ⟨p.toArray⟩ E.w).mono ?_
  rintro e w' ⟨rfl, rfl⟩
  exact ⟨_, M, [], rfl, H, rfl, rfl, rfl⟩

theorem split_spec {M : RO} (hm : MaxM M) {s sep : List UInt8} (hs : s.length < 4294967281) (h1 : 1 ≤ sep.length) :
    Sp Tryz.prog 51 [st s, st sep] M [] fun r M' L' => L' = [] ∧ ∃ a n, r = .slice a n n ∧ n = (split s sep).length ∧ RoRow M' a ((split s sep).map st) := by
  intro E hE H
  obtain ⟨c, e, z, m, hM, hc⟩ := hm
  have hb := H.ro hM
  have hcell : E.w.cell? ⟨1, 0, none⟩ = some (.int .i64 m) := by
    have : E.w.cell? ⟨1, 0, none⟩ = c[0]? := by simp [World.cell?, hb]
    rw [this, hc]
  have hmap : (splitB ⟨sep.toArray⟩ 0 (countB ⟨s.toArray⟩ ⟨sep.toArray⟩) ⟨s.toArray⟩).map Value.string = (split s sep).map st := by
    have := splitB_data ⟨sep.toArray⟩ 0 (countB ⟨s.toArray⟩ ⟨sep.toArray⟩) ⟨s.toArray⟩
    have h2 : (split s sep) = splitK sep 0 (countB ⟨s.toArray⟩ ⟨sep.toArray⟩) s := rfl
    rw [h2]
    have h3 : splitK sep 0 (countB ⟨s.toArray⟩ ⟨sep.toArray⟩) s = (splitB ⟨sep.toArray⟩ 0 (countB ⟨s.toArray⟩ ⟨sep.toArray⟩) ⟨s.toArray⟩).map (·.data.toList) := this.symm
    rw [h3, List.map_map]
    rfl
  have hcount : countB ⟨s.toArray⟩ ⟨sep.toArray⟩ + 1 = (split s sep).length := by
    have hle := splitB_all ⟨sep.toArray⟩ (by simpa [ByteArray.size] using h1) 0 _ ⟨s.toArray⟩ rfl
    have := congrArg List.length hmap
    rw [List.length_map, List.length_map] at this
    omega
  refine (Tryz.strings_Split ⟨s.toArray⟩ ⟨sep.toArray⟩ m E.w (by simpa [ByteArray.size] using hs) hcell (by simpa [ByteArray.size] using h1)).mono ?_
  rintro e' w' ⟨rfl, rfl⟩
  rw [hmap, hcount]
  have H2 : Hp E M (pt E.w.heap.size (.cells ((split s sep).map st).toArray 9 (0, 0)) :: []) (E.w.alloc (.cells ((split s sep).map st).toArray 9)) := H.alloc _
  obtain ⟨M', hM', hle, H3⟩ := H2.freezeX .head
  refine ⟨_, M', [], rfl, H3, rfl, _, _, rfl, rfl, .inr ⟨_, 0, _, _, _, rfl, hM', by simp, ?_⟩⟩
  simp [List.take_of_length_le]

theorem atoi_spec {M : RO} {s : List UInt8} (hl : s.length ≤ 18) (hn : isNum s = true) : Sp Tryz.prog 87 [st s] M [] fun r M' L' => L' = [] ∧ M' = M ∧ r = .tuple #[.int .i64 (valL s : Int), .nilIface] := by
  intro E hE H
  refine (Tryz.strconv_Atoi ⟨s.toArray⟩ (valL s : Int) (by simpa [ByteArray.size] using hl) (atoi_num hn) E.w).mono ?_
  rintro e w' ⟨rfl, t, rfl⟩
  obtain ⟨z, H2⟩ := H.bytesWorld 5 t
  exact ⟨_, M, [], rfl, H2.drop .head, rfl, rfl, rfl⟩

theorem sTrim_spec {M : RO} {s : List UInt8} (hs : s.length ≤ 4294967296) : Sp0 Tryz.prog 91 [st s, st digs10] M [] fun r M' L' => L' = [] ∧ M' = M ∧ r = st (trimS s digs10) := by
  intro E hd hE H
  refine (Any.strings_Trim_laid Tryz.lays160 (by kernel_rfl) ⟨s.toArray⟩ ⟨digs10.toArray⟩ E.w (by simp [ByteArray.size]; omega) (by decide) (ascii_of_all (by decide))).mono ?_
  rintro e w' ⟨rfl, hb⟩
  exact ⟨_, M, [], rfl, H.below hd hb, rfl, rfl, rfl⟩

end Go.Proofs.YtlcpdkckldlceaaGreatDoor
namespace Go.Proofs.YtlcpdkckldlceaaGreatDoor
open Go.Sx Go.Nat32 Go.Dec Go.PolyL Go.Lib Go.Proofs
attribute [local irreducible] pt sl itc itm
set_option maxRecDepth 100000
set_option linter.unusedVariables false
set_option linter.unusedSimpArgs false

theorem nil_beq (a : List UInt8) : (a == []) = a.isEmpty := by cases a <;> rfl

theorem number_spec {M : RO} {s : List UInt8} (hs : s.length ≤ 4294967296) : Sp0 Tryz.prog 85 [st s] M [] fun r M' L' => L' = [] ∧ M' = M ∧ r = .bool (isNum s) := by
  refine Sp0.enter (n := 15) Tryz.func85 rfl Tryz.ntmps85 rfl ?_
  intro E hdr hE H
  subst hE
  by_cases h0 : s = []
  · refine Goes.seq (Goes.region ?_)
    refine GoL.stepS rfl rfl (asB rfl ?_)
    refine GoL.nil ?_
    refine Goes.seq (Goes.region ?_)
    refine GoL.stepS rfl rfl (mvS rfl ?_)
    refine GoL.stepS rfl rfl (r_neqS (a := s) (b := []) rfl rfl ?_); have e1 : (!(s == [])) = false := (by subst h0; rfl); rw [e1]
    refine GoL.stepS rfl rfl (mvB rfl ?_)
    refine GoL.stepNS rfl rfl rfl ?_
    refine GoL.stepNS rfl rfl rfl ?_
    refine GoL.stepNS rfl rfl rfl ?_
    refine GoL.stepS rfl rfl (r_pickF (v := .bool false) rfl rfl ?_)
    refine GoL.stepS rfl rfl (mvB rfl ?_)
    refine GoL.stepNS rfl rfl rfl ?_
    refine GoL.stepNS rfl rfl rfl ?_
    refine GoL.stepNS rfl rfl rfl ?_
    refine GoL.stepS rfl rfl (r_pickF (v := .bool false) rfl rfl ?_)
    refine GoL.stepS rfl rfl (asB rfl ?_)
    refine GoL.nil ?_
    refine Goes.ret (ret1 (v := .bool _) rfl rfl rfl H.nil ⟨rfl, rfl, ?_⟩)
    subst h0; rfl
  · obtain ⟨c, l, rfl⟩ := List.exists_cons_of_ne_nil h0
    have e1 : (!((c :: l) == ([] : List UInt8))) = true := rfl
    by_cases hc : c = 48
    · subst hc
      refine Goes.seq (Goes.region ?_)
      refine GoL.stepS rfl rfl (asB rfl ?_)
      refine GoL.nil ?_
      refine Goes.seq (Goes.region ?_)
      refine GoL.stepS rfl rfl (mvS rfl ?_)
      refine GoL.stepS rfl rfl (r_neqS (a := _ :: l) (b := []) rfl rfl ?_); rw [e1]
      refine GoL.stepS rfl rfl (mvB rfl ?_)
      refine GoL.stepYS rfl rfl rfl (mvS rfl ?_)
      refine GoL.stepYS rfl rfl rfl (r_indexS (j := 0) (a := _ :: l) tt9 rfl rfl rfl ?_)
      refine GoL.stepYS rfl rfl rfl (r_neqF rfl rfl (by decide) ?_)
      refine GoL.stepS rfl rfl (r_pickT (v := .bool false) rfl rfl ?_)
      refine GoL.stepS rfl rfl (mvB rfl ?_)
      refine GoL.stepNS rfl rfl rfl ?_
      refine GoL.stepNS rfl rfl rfl ?_
      refine GoL.stepNS rfl rfl rfl ?_
      refine GoL.stepS rfl rfl (r_pickF (v := .bool false) rfl rfl ?_)
      refine GoL.stepS rfl rfl (asB rfl ?_)
      refine GoL.nil ?_
      exact Goes.ret (ret1 (v := .bool _) rfl rfl rfl H.nil ⟨rfl, rfl, rfl⟩)
    · have hc2 : (c.toNat : Int) ≠ 48 := by
        intro e
        have : c.toNat = (48 : UInt8).toNat := by have h48 : (48 : UInt8).toNat = 48 := rfl
                                                  omega
        exact hc (UInt8.toNat_inj.1 this)
      refine Goes.seq (Goes.region ?_)
      refine GoL.stepS rfl rfl (asB rfl ?_)
      refine GoL.nil ?_
      refine Goes.seq (Goes.region ?_)
      refine GoL.stepS rfl rfl (mvS rfl ?_)
      refine GoL.stepS rfl rfl (r_neqS (a := _ :: l) (b := []) rfl rfl ?_); rw [e1]
      refine GoL.stepS rfl rfl (mvB rfl ?_)
      refine GoL.stepYS rfl rfl rfl (mvS rfl ?_)
      refine GoL.stepYS rfl rfl rfl (r_indexS (j := 0) (a := _ :: l) tt9 rfl rfl rfl ?_)
      refine GoL.stepYS rfl rfl rfl (r_neqT rfl rfl hc2 ?_)
      refine GoL.stepS rfl rfl (r_pickT (v := .bool true) rfl rfl ?_)
      refine GoL.stepS rfl rfl (mvB rfl ?_)
      refine GoL.stepYS rfl rfl rfl (mvS rfl ?_)
      refine GoL.stepYS rfl rfl rfl (r_call0 hdr cc91 (sTrim_spec (s := c :: l) hs) H ?_); clear H; rintro v12 M12 L12 w hM12 ⟨rfl, rfl, rfl⟩ H
      refine GoL.stepYS rfl rfl rfl (r_eqlS (a := trimS (c :: l) digs10) (b := []) rfl rfl ?_)
      refine GoL.stepS rfl rfl (r_pickT (v := .bool _) rfl rfl ?_)
      refine GoL.stepS rfl rfl (asB rfl ?_)
      refine GoL.nil ?_
      refine Goes.ret (ret1 (v := .bool _) rfl rfl rfl H.nil ⟨rfl, rfl, ?_⟩)
      have e2 : (trimS (c :: l) digs10 == []) = isNum (c :: l) := by
        rw [nil_beq]
        have h1 := trimS_nil (c :: l)
        have h2 : isNum (c :: l) = (c :: l).all isDig := by
          unfold isNum
          have h3 : ((c :: l).head? != some 48) = true := by simpa using hc
          rw [h3]; simp
        rw [h2, Bool.eq_iff_iff, List.isEmpty_iff]
        exact h1
      rw [e2]

def len8tab : List UInt8 := 0 :: 1 :: 2 :: 2 :: 3 :: 3 :: 3 :: 3 :: 4 :: 4 :: 4 :: 4 :: 4 :: 4 :: 4 :: 4 :: 5 :: 5 :: 5 :: 5 :: 5 :: 5 :: 5 :: 5 :: 5 :: 5 :: 5 :: 5 :: 5 :: 5 :: 5 :: 5 :: 6 :: 6 :: 6 :: 6 :: 6 :: 6 :: 6 :: 6 :: 6 :: 6 :: 6 :: 6 :: 6 :: 6 :: 6 :: 6 :: 6 :: 6 :: 6 :: 6 :: 6 :: 6 :: 6 :: 6 :: 6 :: 6 :: 6 :: 6 :: 6 :: 6 :: 6 :: 6 :: 7 :: 7 :: 7 :: 7 :: 7 :: 7 :: 7 :: 7 :: 7 :: 7 :: 7 :: 7 :: 7 :: 7 :: 7 :: 7 :: 7 :: 7 :: 7 :: 7 :: 7 :: 7 :: 7 :: 7 :: 7 :: 7 :: 7 :: 7 :: 7 :: 7 :: 7 :: 7 :: 7 :: 7 :: 7 :: 7 :: 7 :: 7 :: 7 :: 7 :: 7 :: 7 :: 7 :: 7 :: 7 :: 7 :: 7 :: 7 :: 7 :: 7 :: 7 :: 7 :: 7 :: 7 :: 7 :: 7 :: 7 :: 7 :: 7 :: 7 :: 7 :: 7 :: 7 :: 7 :: 8 :: 8 :: 8 :: 8 :: 8 :: 8 :: 8 :: 8 :: 8 :: 8 :: 8 :: 8 :: 8 :: 8 :: 8 :: 8 :: 8 :: 8 :: 8 :: 8 :: 8 :: 8 :: 8 :: 8 :: 8 :: 8 :: 8 :: 8 :: 8 :: 8 :: 8 :: 8 :: 8 :: 8 :: 8 :: 8 :: 8 :: 8 :: 8 :: 8 :: 8 :: 8 :: 8 :: 8 :: 8 :: 8 :: 8 :: 8 :: 8 :: 8 :: 8 :: 8 :: 8 :: 8 :: 8 :: 8 :: 8 :: 8 :: 8 :: 8 :: 8 :: 8 :: 8 :: 8 :: 8 :: 8 :: 8 :: 8 :: 8 :: 8 :: 8 :: 8 :: 8 :: 8 :: 8 :: 8 :: 8 :: 8 :: 8 :: 8 :: 8 :: 8 :: 8 :: 8 :: 8 :: 8 :: 8 :: 8 :: 8 :: 8 :: 8 :: 8 :: 8 :: 8 :: 8 :: 8 :: 8 :: 8 :: 8 :: 8 :: 8 :: 8 :: 8 :: 8 :: 8 :: 8 :: 8 :: 8 :: 8 :: 8 :: 8 :: 8 :: 8 :: 8 :: 8 :: 8 :: 8 :: 8 :: 8 :: 8 :: 8 :: 8 :: 8 :: 8 :: 8 :: 8 :: 8 :: 8 :: []
theorem len8tab_le : ∀ y : Nat, y < 256 → ∃ c, len8tab[y]? = some c ∧ c.toNat ≤ 8 := by
  intro y hy
  have h1 : len8tab.length = 256 := rfl
  refine ⟨len8tab[y], List.getElem?_eq_getElem (by omega), ?_⟩
  have h2 : len8tab.all (fun c => decide (c.toNat ≤ 8)) = true := by kernel_rfl
  exact of_decide_eq_true (List.all_eq_true.1 h2 _ (List.getElem_mem _))

theorem r_shr32 {P : Program} {ρ : Env} {w : World} {K : Value → World → Prop} {dst : Option Tmp} {ty : TypeId} {pos : String} {aft : Array Edge} {g : Option (Nat × Bool)} {t yt : TypeId} {x y : Operand} {a c : Nat} {k' : IntKind} (r : Nat) (hx : ρ.ev x = .int .u32 (a : Int)) (hy : ρ.ev y = .int k' (c : Int)) (hc : c ≤ 32) (hr : a / 2 ^ c = r) (h : K (.int .u32 (r : Int)) w) :
    OpRuns P ρ ⟨dst, .binOp .shr t x y yt, ty, pos, aft, g⟩ w K :=
  r_shr hx hy (by omega) (by
    have e : min (c : Int).toNat IntKind.u32.bits = c := by simp [IntKind.bits]; omega
    have e2 : ((a : Int).fdiv (2 ^ c)) = (r : Int) := by
      rw [Int.fdiv_eq_ediv_of_nonneg _ (Int.pow_nonneg (by omega)), ← hr]; simp
    rw [e, e2]; exact h)

theorem r_sub8 {P : Program} {ρ : Env} {w : World} {K : Value → World → Prop} {dst : Option Tmp} {ty : TypeId} {pos : String} {aft : Array Edge} {g : Option (Nat × Bool)} {t yt : TypeId} {x y : Operand} {a b : Int} (r : Nat) (hx : ρ.ev x = .int .u8 a) (hy : ρ.ev y = .int .u8 b) (hr : a - b = (r : Int) ∧ r ≤ 255) (h : K (.int .u8 (r : Int)) w) :
    OpRuns P ρ ⟨dst, .binOp .sub t x y yt, ty, pos, aft, g⟩ w K :=
  r_sub hx hy (by rw [hr.1, wrap_u8 (by omega) (by omega)]; exact h)

theorem len32_spec {M : RO} {x : Nat} (hx : x < 4294967296) : Sp Tryz.prog 121 [.int .u32 (x : Int)] M [] fun r M' L' => L' = [] ∧ M' = M ∧ ∃ n : Nat, r = .int .i64 (n : Int) ∧ n ≤ 32 := by
  refine Sp.enter (n := 19) Tryz.func121 rfl Tryz.ntmps121 rfl ?_
  intro E hE H
  subst hE
  refine Goes.seq (Goes.region ?_)
  refine GoL.stepS rfl rfl (asI rfl ?_)
  refine GoL.nil ?_
  refine Goes.seq (Goes.seq (Goes.region ?_))
  refine GoL.stepS rfl rfl (mvI rfl ?_)
  refine GoL.stepS rfl rfl (r_geq rfl rfl ?_)
  refine GoL.nil ?_
  refine Goes.cutT [0, 2, 5, 6] [(0, .int .u32 (x : Int)), (2, .int .i64 0)] (fun (s : Nat × Nat) => [(0, .int .u32 (s.1 : Int)), (2, .int .i64 (s.2 : Int))]) (fun s w => s.1 < 65536 ∧ s.2 ≤ 16 ∧ Hp E E.M [] w) ⟨rfl, rfl, trivial⟩ ?aft ?cut
  case cut =>
    intro f2 meet
    refine Goes.cond rfl (fun h1 => ?_) (fun h1 => ?_)
    · refine Goes.seq (Goes.region ?_)
      refine GoL.stepS rfl rfl (mvI rfl ?_)
      refine GoL.stepS rfl rfl (r_shr32 (c := 16) (x / 65536) rfl rfl (by decide) rfl ?_)
      refine GoL.stepS rfl rfl (asI rfl ?_)
      refine GoL.nil ?_
      refine Goes.region ?_
      refine GoL.stepS rfl rfl (asI rfl ?_)
      refine GoL.nil ?_
      exact meet (x / 65536, 16) _ _ ⟨rfl, rfl, trivial⟩ (.of_strip (by kernel_rfl)) ⟨by dsimp only; omega, Nat.le_refl _, H⟩
    · have h1' : ¬ 65536 ≤ (x : Int) := by simpa using h1
      refine Goes.skip ?_
      exact meet (x, 0) _ _ ⟨rfl, rfl, trivial⟩ (.of_strip (by kernel_rfl)) ⟨by dsimp only; omega, Nat.zero_le _, H⟩
  case aft =>
    clear H
    rintro ⟨y, m⟩ f3 w ⟨hy, hm, H⟩
    dsimp only at hy hm
    refine Goes.seq (Goes.seq (Goes.region ?_))
    refine GoL.stepS rfl rfl (mvI rfl ?_)
    refine GoL.stepS rfl rfl (r_geq rfl rfl ?_)
    refine GoL.nil ?_
    refine Goes.cutT [0, 2, 9, 10, 11, 12] [(0, .int .u32 (y : Int)), (2, .int .i64 (m : Int))] (fun (s : Nat × Nat) => [(0, .int .u32 (s.1 : Int)), (2, .int .i64 (s.2 : Int))]) (fun s w => s.1 < 256 ∧ s.2 ≤ 24 ∧ Hp E E.M [] w) ⟨rfl, rfl, trivial⟩ ?aft2 ?cut2
    case cut2 =>
      intro f4 meet
      refine Goes.cond rfl (fun h2 => ?_) (fun h2 => ?_)
      · refine Goes.seq (Goes.region ?_)
        refine GoL.stepS rfl rfl (mvI rfl ?_)
        refine GoL.stepS rfl rfl (r_shr32 (c := 8) (y / 256) rfl rfl (by decide) rfl ?_)
        refine GoL.stepS rfl rfl (asI rfl ?_)
        refine GoL.nil ?_
        refine Goes.region ?_
        refine GoL.stepS rfl rfl (mvI rfl ?_)
        refine GoL.stepS rfl rfl (r_addR ((m + 8 : Nat) : Int) rfl rfl (by first | omega | (dsimp only; omega)) (by first | omega | (dsimp only; omega)) (by first | omega | (dsimp only; omega)) ?_)
        refine GoL.stepS rfl rfl (asI rfl ?_)
        refine GoL.nil ?_
        exact meet (y / 256, m + 8) _ _ ⟨rfl, rfl, trivial⟩ (.of_strip (by kernel_rfl)) ⟨by dsimp only; omega, by dsimp only; omega, H⟩
      · have h2' : ¬ 256 ≤ (y : Int) := by simpa using h2
        refine Goes.skip ?_
        exact meet (y, m) _ _ ⟨rfl, rfl, trivial⟩ (.of_strip (by kernel_rfl)) ⟨by dsimp only; omega, by dsimp only; omega, H⟩
    case aft2 =>
      clear H
      rintro ⟨z, n⟩ f5 w ⟨hz, hn, H⟩
      dsimp only at hz hn
      obtain ⟨c, hc, hc8⟩ := len8tab_le z hz
      refine Goes.seq (Goes.region ?_)
      refine GoL.stepS rfl rfl (mvI rfl ?_)
      refine GoL.stepS rfl rfl (mvI rfl ?_)
      refine GoL.stepS rfl rfl (r_cv_u8 tt68 tt5 rfl (by first | omega | (dsimp only; omega)) (by first | omega | (dsimp only; omega)) ?_)
      refine GoL.stepS rfl rfl (r_indexS (a := len8tab) (j := z) (c := c) tt9 (by kernel_rfl) rfl hc ?_)
      refine GoL.stepS rfl rfl (r_cv_i64 tt5 tt3 rfl (by first | omega | (dsimp only; omega)) (by first | omega | (dsimp only; omega)) ?_)
      refine GoL.stepS rfl rfl (r_addR ((n + c.toNat : Nat) : Int) rfl rfl (by first | omega | (dsimp only; omega)) (by first | omega | (dsimp only; omega)) (by first | omega | (dsimp only; omega)) ?_)
      refine GoL.stepS rfl rfl (asI rfl ?_)
      refine GoL.nil ?_
      exact Goes.ret (ret1 (v := .int _ _) rfl rfl rfl H.nil ⟨rfl, rfl, _, rfl, by omega⟩)

theorem bitLen_spec {M : RO} {v : Value} {x k : Nat} (hv : NatV M v x) (lx : lim k x) (hk : k ≤ 1000000) : Sp Tryz.prog 93 [v] M [] fun r M' L' => L' = [] ∧ M' = M ∧ ∃ n : Nat, r = .int .i64 (n : Int) ∧ n ≤ 32 * k := by
  have hv' := hv
  obtain ⟨va, vn, vc, ws, rfl, hrow, hcan, hwv⟩ := hv
  have hlen := canon_len hcan (hwv.symm ▸ lx)
  have hn := hrow.len
  refine Sp.enter (n := 19) Tryz.func93 rfl Tryz.ntmps93 rfl ?_
  intro E hE H
  subst hE
  refine Goes.seq (Goes.region ?_)
  refine GoL.stepS rfl rfl (bxA rfl H ?_); clear H; intro b1 w hb1 H
  refine GoL.stepS rfl rfl (asI rfl ?_)
  refine GoL.nil ?_
  refine Goes.seq (Goes.seq (Goes.region ?_))
  refine GoL.stepS rfl rfl (ldA tt49 rfl (H.own (by repeat constructor)) rfl (by rfl) ?_)
  refine GoL.stepS rfl rfl (r_call cc74 (isZeroN hv') H ?_); clear H; rintro v5 M5 L5 w hM5 ⟨rfl, rfl, rfl⟩ H
  refine GoL.nil ?_
  refine Goes.cond rfl (fun hz => ?_) (fun hz => ?_)
  · refine Goes.seq (Goes.region ?_)
    refine GoL.stepS rfl rfl (asI rfl ?_)
    refine GoL.nil ?_
    exact Goes.ret (ret1 (v := .int _ _) rfl rfl rfl H.nil ⟨rfl, rfl, 0, rfl, Nat.zero_le _⟩)
  · have hz' : x ≠ 0 := by simpa using hz
    have hvn : 0 < vn := by
      rcases Nat.eq_zero_or_pos vn with h | h
      · have : ws = [] := List.eq_nil_of_length_eq_zero (by omega)
        subst this; exact absurd hwv.symm hz'
      · exact h
    obtain ⟨qb, qo, qcs, qe, qz, rfl, hMq, hcq⟩ := hrow.at (show vn - 1 < vn by omega)
    have hsm := hrow.small.getD (vn - 1)
    refine Goes.skip (Goes.seq (Goes.region ?_))
    first | refine GoL.stepS rfl rfl (r_fieldAddr0 fo49_0 rfl ?_) | refine GoL.stepS rfl rfl (r_fieldAddr fo49_0 rfl ?_)
    refine GoL.stepS rfl rfl (ldL tt47 rfl (H.own (by repeat constructor)) (by rfl) ?_)
    refine GoL.stepS rfl rfl (r_lenSlice tt47 rfl ?_)
    refine GoL.stepS rfl rfl (r_subR ((vn - 1 : Nat) : Int) rfl rfl (by first | omega | (dsimp only; omega)) (by first | omega | (dsimp only; omega)) (by first | omega | (dsimp only; omega)) ?_)
    refine GoL.stepS rfl rfl (asI rfl ?_)
    refine GoL.nil ?_
    refine Goes.seq (Goes.region ?_)
    refine GoL.stepS rfl rfl (mvI rfl ?_)
    refine GoL.stepS rfl rfl (r_mulR (((vn - 1) * 32 : Nat) : Int) rfl rfl (by simp) (by first | omega | (dsimp only; omega)) (by first | omega | (dsimp only; omega)) ?_)
    first | refine GoL.stepS rfl rfl (r_fieldAddr0 fo49_0 rfl ?_) | refine GoL.stepS rfl rfl (r_fieldAddr fo49_0 rfl ?_)
    refine GoL.stepS rfl rfl (ldL tt47 rfl (H.own (by repeat constructor)) (by rfl) ?_)
    refine GoL.stepS rfl rfl (mvI rfl ?_)
    refine GoL.stepS rfl rfl (r_indexAddrN tt47 tt68 rfl rfl (by first | omega | (dsimp only; omega)) ?_)
    refine GoL.stepS rfl rfl (ldI tt68 rfl (H.ro hMq) (by rw [Nat.mul_one]; exact hcq) ?_)
    refine GoL.stepS rfl rfl (r_call cc121 (len32_spec hsm) H ?_); clear H; rintro v17 M17 L17 w hM17 ⟨rfl, rfl, n17, rfl, hn17⟩ H
    refine GoL.stepS rfl rfl (r_addR (((vn - 1) * 32 + n17 : Nat) : Int) rfl rfl (by first | omega | (dsimp only; omega)) (by first | omega | (dsimp only; omega)) (by first | omega | (dsimp only; omega)) ?_)
    refine GoL.stepS rfl rfl (asI rfl ?_)
    refine GoL.nil ?_
    exact Goes.ret (ret1 (v := .int _ _) rfl rfl rfl H.nil ⟨rfl, rfl, _, rfl, by omega⟩)

end Go.Proofs.YtlcpdkckldlceaaGreatDoor
namespace Go.Proofs.YtlcpdkckldlceaaGreatDoor
open Go.Sx Go.Nat32 Go.Dec Go.PolyL Go.Lib Go.Proofs
attribute [local irreducible] pt sl itc itm
set_option maxRecDepth 100000
set_option linter.unusedVariables false
set_option linter.unusedSimpArgs false

theorem pow10_lim {x k : Nat} (h : x < 10 ^ k) : lim k x := Nat.lt_of_lt_of_le h (Nat.pow_le_pow_left (by decide) k)

theorem natParse_spec {M : RO} {s : List UInt8} (hn : isNum s = true) (hs : s.length ≤ 2000) :
    Sp0 Tryz.prog 57 [st s] M [] fun r M' L' => L' = [] ∧ ∃ v, r = .tuple #[v, .int .i64 0] ∧ NatV M' v (valL s) := by
  have hn' := hn
  unfold isNum at hn'
  simp only [Bool.and_eq_true, Bool.not_eq_true', bne_iff_ne] at hn'
  obtain ⟨⟨h1, h2⟩, h3⟩ := hn'
  have htr : (trimS s digs10 == []) = true := by
    rw [nil_beq, List.isEmpty_iff]; exact (trimS_nil s).2 h3
  have hne : (s == ([] : List UInt8)) = false := by rw [nil_beq]; exact h1
  obtain ⟨c0, l0, hcl⟩ := List.exists_cons_of_ne_nil (show s ≠ [] by intro h; subst h; simp at h1)
  have hc48 : (c0.toNat : Int) ≠ 48 := by
    intro e
    have h48 : (48 : UInt8).toNat = 48 := rfl
    have : c0 = 48 := UInt8.toNat_inj.1 (by omega)
    subst this; rw [hcl] at h2; exact h2 rfl
  refine Sp0.enter (n := 47) Tryz.func57 rfl Tryz.ntmps57 rfl ?_
  intro E hdr hE H
  subst hE
  refine Goes.seq (Goes.region ?_)
  refine GoL.stepS rfl rfl (r_alloc tt49 H ?_); clear H; intro b2 w hb2 H
  refine GoL.stepS rfl rfl (asI rfl ?_)
  refine GoL.nil ?_
  refine Goes.seq (Goes.seq (Goes.region ?_))
  refine GoL.stepS rfl rfl (mvS rfl ?_)
  refine GoL.stepS rfl rfl (r_eqlS (a := s) (b := []) rfl rfl ?_); rw [hne]
  refine GoL.stepS rfl rfl (mvB rfl ?_)
  refine GoL.stepYS rfl rfl rfl (mvS rfl ?_)
  refine GoL.stepYS rfl rfl rfl (r_call0 hdr cc91 (sTrim_spec (s := s) (by first | omega | (dsimp only; omega))) H ?_); clear H; rintro v11 M11 L11 w hM11 ⟨rfl, rfl, rfl⟩ H
  refine GoL.stepYS rfl rfl rfl (r_neqS (a := trimS s digs10) (b := []) rfl rfl ?_); rw [htr]
  refine GoL.stepS rfl rfl (r_pickF (v := .bool false) rfl rfl ?_)
  refine GoL.stepS rfl rfl (mvB rfl ?_)
  refine GoL.stepYS rfl rfl rfl (mvS rfl ?_)
  refine GoL.stepYS rfl rfl rfl (r_lenS tt9 rfl ?_)
  by_cases hl : 1 < s.length
  · refine GoL.stepYS rfl rfl rfl (r_gtrT rfl rfl (by first | omega | (dsimp only; omega)) ?_)
    refine GoL.stepYS rfl rfl rfl (mvB rfl ?_)
    refine GoL.stepYS rfl rfl rfl (mvS rfl ?_)
    refine GoL.stepYS rfl rfl rfl (r_indexS (j := 0) (a := s) (c := c0) tt9 rfl rfl (by rw [hcl]; rfl) ?_)
    refine GoL.stepYS rfl rfl rfl (r_eqlF rfl rfl hc48 ?_)
    refine GoL.stepYS rfl rfl rfl (r_pickT (v := .bool false) rfl rfl ?_)
    refine GoL.stepS rfl rfl (r_pickF (v := .bool false) rfl rfl ?_)
    refine GoL.nil ?_
    refine Goes.condF rfl (rfl) ?_
    refine Goes.skip (Goes.seq (Goes.seq (Goes.region ?_)))
    refine GoL.stepS rfl rfl (mvS rfl ?_)
    refine GoL.stepS rfl rfl (r_lenS tt9 rfl ?_)
    refine GoL.stepS rfl rfl (r_gtrF rfl rfl (by first | omega | (dsimp only; omega)) ?_)
    refine GoL.nil ?_
    refine Goes.condF rfl (rfl) ?_
    refine Goes.skip (Goes.seq (Goes.region ?_))
    refine GoL.stepS rfl rfl (r_alloc tt49 H ?_); clear H; intro b4 w hb4 H
    refine GoL.nil ?_
    refine Goes.seq (Goes.seq (Goes.region ?_))
    refine GoL.stepS rfl rfl (mvS rfl ?_)
    refine GoL.stepS rfl rfl (r_strBytes (a := s) tt9 tt124 tt5 rfl H ?_); clear H; intro b30 w c30 z30 cap30 hb30 hc30 H
    refine GoL.stepS rfl rfl (r_lenSlice tt124 rfl ?_)
    refine GoL.stepS rfl rfl (mvI rfl ?_)
    refine GoL.nil ?_
    refine Goes.block ?_
    refine Goes.loopS [6, 32, 33, 34, 35, 36, 37, 38, 39, 40, 41] (fun (q : Nat × (Option Addr × Nat × Nat) × RO × List HProp) => [(32, .int .i64 (q.1 : Int))]) (fun q w => q.1 ≤ s.length ∧ NatV q.2.2.1 (.agg #[.slice q.2.1.1 q.2.1.2.1 q.2.1.2.2]) (valL (s.take q.1)) ∧ Hp E q.2.2.1 (pt b4 (.cells #[.slice q.2.1.1 q.2.1.2.1 q.2.1.2.2] 49) :: pt b30 (.cells c30 5 z30) :: pt b2 (.cells #[.slice none 0 0] 49) :: q.2.2.2) w) (fun q => s.length - q.1) (0, (none, 0, 0), _, []) ⟨rfl, trivial⟩ ⟨Nat.zero_le _, .zero _, H.sel (.cons (by repeat constructor) (.cons (by repeat constructor) (.cons (by repeat constructor) .nil)))⟩ ?_
    clear H
    rintro ⟨i, ⟨ya, yn, yc⟩, M1, L1⟩ f1 w ⟨hi, hy, H⟩ again
    dsimp only at hi hy H
    refine Goes.seq (Goes.region ?_)
    refine GoL.stepS rfl rfl (r_lss rfl rfl ?_)
    refine GoL.nil ?_
    refine Goes.seq ?_
    refine Goes.cond rfl (fun hlt => ?_) (fun hlt => ?_)
    · have hin : i < s.length := by have : (i : Int) < (s.length : Int) := by simpa using hlt
                                    omega
      obtain ⟨c, hc⟩ : ∃ c, s[i]? = some c := ⟨s[i], List.getElem?_eq_getElem hin⟩
      have hd := List.all_eq_true.1 h3 c (List.mem_of_getElem? hc)
      unfold isDig at hd
      simp only [Bool.and_eq_true, decide_eq_true_eq] at hd
      have htk : valL (s.take (i + 1)) = valL (s.take i) * 10 + (c.toNat - 48) := by
        rw [List.take_add_one, hc]; exact valL_snoc _ _
      have hall : (s.take i).all isDig = true := List.all_eq_true.2 fun x hx => List.all_eq_true.1 h3 x (List.mem_of_mem_take hx)
      have hlt2 := valL_lt hall
      have hl1 : lim i (valL (s.take i)) := pow10_lim (by rw [List.length_take, Nat.min_eq_left hi] at hlt2; exact hlt2)
      refine Goes.skip (Goes.seq (Goes.block (Goes.seq (Goes.region ?_))))
      refine GoL.stepS rfl rfl (r_indexAddrN tt124 tt5 rfl rfl hin ?_)
      refine GoL.stepS rfl rfl (ldI tt5 rfl (H.own (.tail .head)) (by rw [Nat.mul_one, Nat.zero_add]; exact hc30 i c hc) ?_)
      refine GoL.stepS rfl rfl (asI rfl ?_)
      refine GoL.nil ?_
      refine Goes.region ?_
      refine GoL.stepS rfl rfl (ldA tt49 rfl (H.own (by repeat constructor)) rfl (by rfl) ?_)
      refine GoL.stepS rfl rfl (mvI rfl ?_)
      refine GoL.stepS rfl rfl (r_sub8 (c.toNat - 48) rfl rfl (by first | omega | (dsimp only; omega)) ?_)
      refine GoL.stepS rfl rfl (r_cv_u64 tt5 tt51 rfl (by first | omega | (dsimp only; omega)) (by first | omega | (dsimp only; omega)) ?_)
      refine GoL.stepS rfl rfl (r_call cc92 (smallN hy hl1 (m := 10) (plus := c.toNat - 48) (by first | omega | (dsimp only; omega)) (by first | omega | (dsimp only; omega)) (by first | omega | (dsimp only; omega))) H ?_); clear H; rintro v40 M40 L40 w hM40 ⟨rfl, h40⟩ H
      rw [← htk] at h40
      obtain ⟨za, zn, zc, rfl⟩ := h40.shape
      refine GoL.step0 rfl (stA tt49 rfl rfl H (by repeat constructor) rfl rfl (by rfl) ?_); clear H; intro w H
      refine GoL.nil ?_
      refine Goes.inBlock (Goes.region ?_)
      first | refine GoL.stepS rfl rfl (r_addI rfl rfl (by first | omega | (dsimp only; omega)) (by first | omega | (dsimp only; omega)) ?_) | refine GoL.stepS rfl rfl (r_add rfl rfl ?_)
      refine GoL.stepS rfl rfl (mvI rfl ?_)
      refine GoL.nil ?_
      exact again (i + 1, (za, zn, zc), M40, L1) _ _ ⟨rfl, trivial⟩ (.of_strip (by kernel_rfl)) ⟨by first | omega | (dsimp only; omega), h40, H⟩ (by first | omega | (dsimp only; omega))
    · have hin : i = s.length := by have : ¬ (i : Int) < (s.length : Int) := by simpa using hlt
                                    omega
      subst hin
      rw [List.take_length] at hy
      have hl2 : lim s.length (valL s) := pow10_lim (valL_lt h3)
      refine Goes.exit rfl (Goes.seq (Goes.seq (Goes.region ?_)))
      refine GoL.stepS rfl rfl (ldA tt49 rfl (H.own (by repeat constructor)) rfl (by rfl) ?_)
      refine GoL.stepS rfl rfl (r_call cc93 (bitLen_spec hy hl2 (by first | omega | (dsimp only; omega))) H ?_); clear H; rintro v43 M43 L43 w hM43 ⟨rfl, rfl, n43, rfl, hn43⟩ H
      refine GoL.stepS rfl rfl (r_gtrF rfl rfl (by first | omega | (dsimp only; omega)) ?_)
      refine GoL.nil ?_
      refine Goes.condF rfl (rfl) ?_
      refine Goes.skip (Goes.seq (Goes.region ?_))
      refine GoL.stepS rfl rfl (ldA tt49 rfl (H.own (by repeat constructor)) rfl (by rfl) ?_)
      refine GoL.step0 rfl (stA tt49 rfl rfl H (by repeat constructor) rfl rfl (by rfl) ?_); clear H; intro w H
      refine GoL.stepS rfl rfl (asI rfl ?_)
      refine GoL.nil ?_
      exact Goes.ret (ret2 (v := .agg #[.slice _ _ _]) (v' := .int _ _) rfl rfl (res_agg rfl tt49 (H.own (by repeat constructor)) rfl (by rfl)) rfl H.nil ⟨rfl, _, rfl, hy⟩)
  · refine GoL.stepYS rfl rfl rfl (r_gtrF rfl rfl (by first | omega | (dsimp only; omega)) ?_)
    refine GoL.stepYS rfl rfl rfl (mvB rfl ?_)
    refine GoL.stepNS rfl rfl rfl ?_
    refine GoL.stepNS rfl rfl rfl ?_
    refine GoL.stepNS rfl rfl rfl ?_
    refine GoL.stepYS rfl rfl rfl (r_pickF (v := .bool false) rfl rfl ?_)
    refine GoL.stepS rfl rfl (r_pickF (v := .bool false) rfl rfl ?_)
    refine GoL.nil ?_
    refine Goes.condF rfl (rfl) ?_
    refine Goes.skip (Goes.seq (Goes.seq (Goes.region ?_)))
    refine GoL.stepS rfl rfl (mvS rfl ?_)
    refine GoL.stepS rfl rfl (r_lenS tt9 rfl ?_)
    refine GoL.stepS rfl rfl (r_gtrF rfl rfl (by first | omega | (dsimp only; omega)) ?_)
    refine GoL.nil ?_
    refine Goes.condF rfl (rfl) ?_
    refine Goes.skip (Goes.seq (Goes.region ?_))
    refine GoL.stepS rfl rfl (r_alloc tt49 H ?_); clear H; intro b4 w hb4 H
    refine GoL.nil ?_
    refine Goes.seq (Goes.seq (Goes.region ?_))
    refine GoL.stepS rfl rfl (mvS rfl ?_)
    refine GoL.stepS rfl rfl (r_strBytes (a := s) tt9 tt124 tt5 rfl H ?_); clear H; intro b30 w c30 z30 cap30 hb30 hc30 H
    refine GoL.stepS rfl rfl (r_lenSlice tt124 rfl ?_)
    refine GoL.stepS rfl rfl (mvI rfl ?_)
    refine GoL.nil ?_
    refine Goes.block ?_
    refine Goes.loopS [6, 32, 33, 34, 35, 36, 37, 38, 39, 40, 41] (fun (q : Nat × (Option Addr × Nat × Nat) × RO × List HProp) => [(32, .int .i64 (q.1 : Int))]) (fun q w => q.1 ≤ s.length ∧ NatV q.2.2.1 (.agg #[.slice q.2.1.1 q.2.1.2.1 q.2.1.2.2]) (valL (s.take q.1)) ∧ Hp E q.2.2.1 (pt b4 (.cells #[.slice q.2.1.1 q.2.1.2.1 q.2.1.2.2] 49) :: pt b30 (.cells c30 5 z30) :: pt b2 (.cells #[.slice none 0 0] 49) :: q.2.2.2) w) (fun q => s.length - q.1) (0, (none, 0, 0), _, []) ⟨rfl, trivial⟩ ⟨Nat.zero_le _, .zero _, H.sel (.cons (by repeat constructor) (.cons (by repeat constructor) (.cons (by repeat constructor) .nil)))⟩ ?_
    clear H
    rintro ⟨i, ⟨ya, yn, yc⟩, M1, L1⟩ f1 w ⟨hi, hy, H⟩ again
    dsimp only at hi hy H
    refine Goes.seq (Goes.region ?_)
    refine GoL.stepS rfl rfl (r_lss rfl rfl ?_)
    refine GoL.nil ?_
    refine Goes.seq ?_
    refine Goes.cond rfl (fun hlt => ?_) (fun hlt => ?_)
    · have hin : i < s.length := by have : (i : Int) < (s.length : Int) := by simpa using hlt
                                    omega
      obtain ⟨c, hc⟩ : ∃ c, s[i]? = some c := ⟨s[i], List.getElem?_eq_getElem hin⟩
      have hd := List.all_eq_true.1 h3 c (List.mem_of_getElem? hc)
      unfold isDig at hd
      simp only [Bool.and_eq_true, decide_eq_true_eq] at hd
      have htk : valL (s.take (i + 1)) = valL (s.take i) * 10 + (c.toNat - 48) := by
        rw [List.take_add_one, hc]; exact valL_snoc _ _
      have hall : (s.take i).all isDig = true := List.all_eq_true.2 fun x hx => List.all_eq_true.1 h3 x (List.mem_of_mem_take hx)
      have hlt2 := valL_lt hall
      have hl1 : lim i (valL (s.take i)) := pow10_lim (by rw [List.length_take, Nat.min_eq_left hi] at hlt2; exact hlt2)
      refine Goes.skip (Goes.seq (Goes.block (Goes.seq (Goes.region ?_))))
      refine GoL.stepS rfl rfl (r_indexAddrN tt124 tt5 rfl rfl hin ?_)
      refine GoL.stepS rfl rfl (ldI tt5 rfl (H.own (.tail .head)) (by rw [Nat.mul_one, Nat.zero_add]; exact hc30 i c hc) ?_)
      refine GoL.stepS rfl rfl (asI rfl ?_)
      refine GoL.nil ?_
      refine Goes.region ?_
      refine GoL.stepS rfl rfl (ldA tt49 rfl (H.own (by repeat constructor)) rfl (by rfl) ?_)
      refine GoL.stepS rfl rfl (mvI rfl ?_)
      refine GoL.stepS rfl rfl (r_sub8 (c.toNat - 48) rfl rfl (by first | omega | (dsimp only; omega)) ?_)
      refine GoL.stepS rfl rfl (r_cv_u64 tt5 tt51 rfl (by first | omega | (dsimp only; omega)) (by first | omega | (dsimp only; omega)) ?_)
      refine GoL.stepS rfl rfl (r_call cc92 (smallN hy hl1 (m := 10) (plus := c.toNat - 48) (by first | omega | (dsimp only; omega)) (by first | omega | (dsimp only; omega)) (by first | omega | (dsimp only; omega))) H ?_); clear H; rintro v40 M40 L40 w hM40 ⟨rfl, h40⟩ H
      rw [← htk] at h40
      obtain ⟨za, zn, zc, rfl⟩ := h40.shape
      refine GoL.step0 rfl (stA tt49 rfl rfl H (by repeat constructor) rfl rfl (by rfl) ?_); clear H; intro w H
      refine GoL.nil ?_
      refine Goes.inBlock (Goes.region ?_)
      first | refine GoL.stepS rfl rfl (r_addI rfl rfl (by first | omega | (dsimp only; omega)) (by first | omega | (dsimp only; omega)) ?_) | refine GoL.stepS rfl rfl (r_add rfl rfl ?_)
      refine GoL.stepS rfl rfl (mvI rfl ?_)
      refine GoL.nil ?_
      exact again (i + 1, (za, zn, zc), M40, L1) _ _ ⟨rfl, trivial⟩ (.of_strip (by kernel_rfl)) ⟨by first | omega | (dsimp only; omega), h40, H⟩ (by first | omega | (dsimp only; omega))
    · have hin : i = s.length := by have : ¬ (i : Int) < (s.length : Int) := by simpa using hlt
                                    omega
      subst hin
      rw [List.take_length] at hy
      have hl2 : lim s.length (valL s) := pow10_lim (valL_lt h3)
      refine Goes.exit rfl (Goes.seq (Goes.seq (Goes.region ?_)))
      refine GoL.stepS rfl rfl (ldA tt49 rfl (H.own (by repeat constructor)) rfl (by rfl) ?_)
      refine GoL.stepS rfl rfl (r_call cc93 (bitLen_spec hy hl2 (by first | omega | (dsimp only; omega))) H ?_); clear H; rintro v43 M43 L43 w hM43 ⟨rfl, rfl, n43, rfl, hn43⟩ H
      refine GoL.stepS rfl rfl (r_gtrF rfl rfl (by first | omega | (dsimp only; omega)) ?_)
      refine GoL.nil ?_
      refine Goes.condF rfl (rfl) ?_
      refine Goes.skip (Goes.seq (Goes.region ?_))
      refine GoL.stepS rfl rfl (ldA tt49 rfl (H.own (by repeat constructor)) rfl (by rfl) ?_)
      refine GoL.step0 rfl (stA tt49 rfl rfl H (by repeat constructor) rfl rfl (by rfl) ?_); clear H; intro w H
      refine GoL.stepS rfl rfl (asI rfl ?_)
      refine GoL.nil ?_
      exact Goes.ret (ret2 (v := .agg #[.slice _ _ _]) (v' := .int _ _) rfl rfl (res_agg rfl tt49 (H.own (by repeat constructor)) rfl (by rfl)) rfl H.nil ⟨rfl, _, rfl, hy⟩)

end Go.Proofs.YtlcpdkckldlceaaGreatDoor
namespace Go.Proofs.YtlcpdkckldlceaaGreatDoor
open Go.Sx Go.Nat32 Go.Dec Go.PolyL Go.Lib Go.Proofs
attribute [local irreducible] pt sl itc itm
set_option maxRecDepth 100000
set_option linter.unusedVariables false
set_option linter.unusedSimpArgs false
set_option maxHeartbeats 1000000

/-- How far the reading of a term's words has come. -/
def RInv (ws0 : List (List UInt8)) : Nat → Nat → Nat → List (List UInt8) → Prop
  | 0, a, b, ws => a = 0 ∧ b = 0 ∧ ws = ws0
  | 1, a, b, ws => b = 0 ∧ optW 120 ws0 = some (a, ws)
  | _, a, b, ws => ∃ ws1, optW 120 ws0 = some (a, ws1) ∧ optW 121 ws1 = some (b, ws)

def pw2 (a b : Nat) : Value := .agg #[.int .i64 (a : Int), .int .i64 (b : Int)]

theorem strRow_at {M : RO} {a : Option Addr} {ws : List (List UInt8)} {w : List UInt8} {j : Nat} (h : RoRow M a (ws.map st)) (hj : ws[j]? = some w) : ∃ b o c e z, a = some ⟨b, o, none⟩ ∧ M b = some (.cells c e z) ∧ c[o + j]? = some (st w) :=
  h.at (v := st w) (by rw [List.getElem?_map, hj]; rfl)

/-- s[l:] -/
theorem r_strFrom {P : Program} {ρ : Env} {w : World} {K : Value → World → Prop} {dst : Option Tmp} {ty : TypeId} {pos : String} {aft : Array Edge} {g : Option (Nat × Bool)} {t : TypeId} {n by_ : Nat} {zv : Value} {x lo : Operand} {kk : IntKind} {l : Nat} {a : List UInt8} (ht : tinfo P t = some (.string, n, by_, zv)) (hx : ρ.ev x = .string ⟨a.toArray⟩) (hlo : ρ.ev lo = .int kk (l : Int)) (h1 : l ≤ a.length)
    (h : K (st (a.drop l)) w) : OpRuns P ρ ⟨dst, .slice t x (some lo) none none, ty, pos, aft, g⟩ w K :=
  r_sliceS (lo := some lo) (hi := none) (l := l) (h' := a.length) ht hx ⟨kk, hlo⟩ rfl h1 (Nat.le_refl _) (by rw [List.take_length]; exact h)

theorem read_spec {M : RO} (hm : MaxM M) {s : List UInt8} (hs : s.length ≤ 100000) :
    Sp0 Tryz.prog 52 [st s] M [] fun r M' L' => L' = [] ∧ ((∃ t, readW (split s [32]) = some t ∧ r = .tuple #[st (decDigits t.1), pw2 t.2.1 t.2.2, .bool true]) ∨ (readW (split s [32]) = none ∧ ∃ v a b, r = .tuple #[st v, pw2 a b, .bool false])) := by
  refine Sp0.enter (n := 77) Tryz.func52 rfl Tryz.ntmps52 rfl ?_
  intro E hdr hE H
  subst hE
  have hwl : ∀ w ∈ split s [32], w.length ≤ 100000 := by
    intro w hw
    have hj := join_split s [32]
    have : ∀ (l : List (List UInt8)), w ∈ l → w.length ≤ (join l [32]).length := by
      intro l
      induction l with
      | nil => intro h; cases h
      | cons x l ih =>
        intro h
        by_cases hl : l = []
        · subst hl
          obtain rfl := List.mem_singleton.1 h
          rw [join_one]; exact Nat.le_refl _
        · rw [join_two _ hl]
          simp only [List.length_append]
          rcases List.mem_cons.1 h with rfl | h
          · omega
          · have := ih h; omega
    have := this _ hw
    rw [hj] at this; omega
  have hne : split s [32] ≠ [] := splitK_ne _ _ _
  generalize hws : split s [32] = words at hwl hne
  obtain ⟨w0, ws0, rfl⟩ := List.exists_cons_of_ne_nil hne
  refine Goes.seq (Goes.region ?_)
  refine GoL.stepS rfl rfl (asS rfl ?_)
  refine GoL.stepS rfl rfl (r_alloc tt90 H ?_); clear H; intro b3 w hb3 H
  refine GoL.stepS rfl rfl (asB rfl ?_)
  refine GoL.nil ?_
  refine Goes.seq (Goes.region ?_)
  refine GoL.stepS rfl rfl (mvS rfl ?_)
  refine GoL.stepS rfl rfl (r_call cc51 (split_spec hm (s := s) (sep := [32]) (by first | omega | (dsimp only; omega)) (by decide)) H ?_); clear H; rintro v12 M12 L12 w hM12 ⟨rfl, wa, wn, rfl, hwn, hwrow⟩ H
  rw [hws] at hwn hwrow
  have hwn' : wn = ws0.length + 1 := by rw [hwn]; rfl
  obtain ⟨qb, qo, qcs, qe, qz, rfl, hMq, hq0⟩ := strRow_at (j := 0) (w := w0) hwrow rfl
  refine GoL.stepS rfl rfl (asL rfl ?_)
  refine GoL.nil ?_
  refine Goes.seq (Goes.region ?_)
  refine GoL.stepS rfl rfl (r_alloc tt90 H ?_); clear H; intro b6 w hb6 H
  refine GoL.nil ?_
  refine Goes.seq (Goes.seq (Goes.region ?_))
  refine GoL.stepS rfl rfl (mvL rfl ?_)
  refine GoL.stepS rfl rfl (r_indexAddrN (j := 0) tt86 tt9 rfl rfl (by first | omega | (dsimp only; omega)) ?_)
  refine GoL.stepS rfl rfl (ldS tt9 rfl (H.ro hMq) hq0 ?_)
  refine GoL.stepS rfl rfl (r_call0 hdr cc85 (number_spec (s := w0) (by have := hwl w0 (by simp); omega)) H ?_); clear H; rintro v16 M16 L16 w hM16 ⟨rfl, rfl, rfl⟩ H
  refine GoL.stepS rfl rfl (r_not rfl ?_)
  refine GoL.nil ?_
  refine Goes.cond rfl (fun hnum => ?_) (fun hnum => ?_)
  · have hnum' : isNum w0 = false := by simpa using hnum
    refine Goes.seq ?_
    refine Goes.regionD0 mixed (by kernel_rfl) 5 H ?_
    refine Ver.read (v := .agg _) 0 rfl (by kernel_rfl) (fun M' L' w hM H => ldA tt90 rfl (H.own (by repeat constructor)) rfl (by rfl) ⟨rfl, rfl⟩) ?_
    refine Ver.read (v := .string _) 1 rfl (by kernel_rfl) (fun M' L' w hM H => asS rfl ⟨rfl, rfl⟩) ?_
    refine Ver.bar0 2 (by kernel_rfl) rfl (by kernel_rfl) ?_
    clear H; intro w H
    refine stA tt90 rfl rfl H (by repeat constructor) rfl rfl (by rfl) ?_
    clear H; intro w H
    refine ⟨_, _, RO.le.refl _, H, ?_⟩
    refine Ver.read (v := .bool _) 3 rfl (by kernel_rfl) (fun M' L' w hM H => asB rfl ⟨rfl, rfl⟩) ?_
    refine Ver.fin0 (by kernel_rfl) ?_
    clear H; intro w H
    refine Goes.ret (ret3 (v := .string _) (v' := .agg #[.int _ _, .int _ _]) (v'' := .bool _) rfl rfl rfl (res_agg rfl tt90 (H.own (by repeat constructor)) rfl (by rfl)) rfl H.nil ⟨rfl, .inr ⟨?_, [], 0, 0, rfl⟩⟩)
    rw [readW, hnum']; rfl
  · have hnum' : isNum w0 = true := by simpa using hnum
    refine Goes.skip (Goes.seq (Goes.region ?_))
    refine GoL.stepS rfl rfl (mvL rfl ?_)
    refine GoL.stepS rfl rfl (r_slFromRo (l := 1) tt86 tt9 rfl rfl (by first | omega | (dsimp only; omega)) (Nat.le_refl _) (hwrow.mono hM16) (by rw [List.length_map, hwn]; simp) ?_); intro a20 ha20
    refine GoL.stepS rfl rfl (asL rfl ?_)
    refine GoL.nil ?_
    refine Goes.seq (Goes.seq (Goes.region ?_))
    first | refine GoL.stepS rfl rfl (r_fieldAddr0 fo90_0 rfl ?_) | refine GoL.stepS rfl rfl (r_fieldAddr fo90_0 rfl ?_)
    refine GoL.stepS rfl rfl (bld (cells := [.string _, .pointer _]) tt132 pl132 pz132 rfl (by rfl) ?_)
    first | refine GoL.stepS rfl rfl (r_fieldAddr0 fo90_1 rfl ?_) | refine GoL.stepS rfl rfl (r_fieldAddr fo90_1 rfl ?_)
    refine GoL.stepS rfl rfl (bld (cells := [.string _, .pointer _]) tt132 pl132 pz132 rfl (by rfl) ?_)
    refine GoL.stepS rfl rfl (r_bsl (cells := [.string _, .pointer _, .string _, .pointer _]) tt133 tt132 rfl (by rfl) H ?_); clear H; intro b25 w hb25 H
    refine GoL.stepS rfl rfl (r_lenSlice tt133 rfl ?_)
    refine GoL.stepS rfl rfl (mvI rfl ?_)
    refine GoL.nil ?_
    refine Goes.block ?_
    have hcell : ∃ M25, M16.le M25 ∧ M25 b25 = some (.cells #[st [120, 94], .pointer (some ⟨b6, 0, none⟩), st [121, 94], .pointer (some ⟨b6, 1, none⟩)] 132 (0, 0)) ∧ Hp E M25 [pt b6 (.cells #[.int .i64 0, .int .i64 0] 90 (0, 0)), pt b3 (.cells #[.int .i64 0, .int .i64 0] 90 (0, 0))] w := by
      obtain ⟨M', h1, h2, h3⟩ := H.freezeX (i := 0) .head
      exact ⟨M', h2, h1, h3.sel (.cons (by repeat constructor) (.cons (by repeat constructor) .nil))⟩
    clear H
    obtain ⟨M25, hM25, hb25, H⟩ := hcell
    have hdrop : (List.map st (w0 :: ws0)).drop (1 * 1) = ws0.map st := rfl
    rw [hdrop] at ha20
    refine Goes.loopS (2 :: 4 :: 7 :: 9 :: 10 :: 27 :: 28 :: 29 :: 30 :: 31 :: 32 :: 33 :: 34 :: 35 :: 36 :: 37 :: 38 :: 39 :: 40 :: 41 :: 42 :: 43 :: 44 :: 45 :: 46 :: 47 :: 48 :: 49 :: 50 :: 51 :: 52 :: 53 :: 54 :: 55 :: 56 :: 57 :: 58 :: 59 :: 60 :: 61 :: 62 :: 63 :: 64 :: 65 :: 66 :: 67 :: 68 :: 69 :: []) (fun (q : Nat × Nat × Nat × List (List UInt8) × (Option Addr × Nat) × RO × List HProp) => [(27, .int .i64 (q.1 : Int)), (7, .slice q.2.2.2.2.1.1 q.2.2.2.1.length q.2.2.2.2.1.2)]) (fun q w => q.1 ≤ 2 ∧ RInv ws0 q.1 q.2.1 q.2.2.1 q.2.2.2.1 ∧ (∀ x ∈ q.2.2.2.1, x.length ≤ 100000) ∧ q.2.2.2.1.length ≤ q.2.2.2.2.1.2 ∧ M25.le q.2.2.2.2.2.1 ∧ RoRow q.2.2.2.2.2.1 q.2.2.2.2.1.1 (q.2.2.2.1.map st) ∧ Hp E q.2.2.2.2.2.1 (pt b6 (.cells #[.int .i64 (q.2.1 : Int), .int .i64 (q.2.2.1 : Int)] 90 (0, 0)) :: pt b3 (.cells #[.int .i64 0, .int .i64 0] 90 (0, 0)) :: q.2.2.2.2.2.2) w) (fun q => 2 - q.1) (0, 0, 0, ws0, (a20, wn - 1), M25, []) ⟨rfl, by show Value.slice _ _ _ = Value.slice _ _ _; rw [hwn', Nat.add_sub_cancel], trivial⟩ ⟨Nat.zero_le _, (show RInv ws0 0 0 0 ws0 from ⟨rfl, rfl, rfl⟩), (fun x hx => hwl x (by simp [hx])), by dsimp only; omega, RO.le.refl _, ha20.mono hM25, H⟩ ?_
    clear H
    rintro ⟨j, a, b, ws, ⟨la, lc⟩, M1, L1⟩ f1 w ⟨hj2, hinv, hwsl, hlc, hM1, hrow, H⟩ again
    dsimp only at hj2 hinv hwsl hlc hM1 hrow H
    refine Goes.seq (Goes.region ?_)
    refine GoL.stepS rfl rfl (r_lss rfl rfl ?_)
    refine GoL.nil ?_
    refine Goes.seq ?_
    refine Goes.cond rfl (fun hlt => ?_) (fun hlt => ?_)
    · have hj3 : j = 0 ∨ j = 1 := by have : (j : Int) < 2 := by simpa using hlt
                                     omega
      rcases hj3 with rfl | rfl
      · obtain ⟨rfl, rfl, hw0⟩ : a = 0 ∧ b = 0 ∧ ws = ws0 := hinv
        have hnx0 : ws = [] → RInv ws0 1 0 0 [] := fun h => ⟨rfl, by rw [← hw0, h]; rfl⟩
        have hnx1 : ∀ w1 ws1, ws = w1 :: ws1 → [120, 94].isPrefixOf w1 = false → RInv ws0 1 0 0 (w1 :: ws1) := fun w1 ws1 h hp => ⟨rfl, by rw [← hw0, h]; exact optW_skip hp⟩
        have hnx2 : ∀ w1 ws1, ws = w1 :: ws1 → [120, 94].isPrefixOf w1 = true → isNum (w1.drop 2) = true → (w1.drop 2).length ≤ 9 → RInv ws0 1 (valL (w1.drop 2)) 0 ws1 := fun w1 ws1 h hp hn hl => ⟨rfl, by rw [← hw0, h]; exact optW_take hp hn hl⟩
        have hfail : ∀ w1 ws1, ws = w1 :: ws1 → [120, 94].isPrefixOf w1 = true → ¬ (isNum (w1.drop 2) = true ∧ (w1.drop 2).length ≤ 9) → readW (w0 :: ws0) = none := fun w1 ws1 h hp hn => readW_none1 hnum' (by rw [← hw0, h]; exact optW_fail hp hn)
        refine Goes.skip (Goes.seq (Goes.block (Goes.seq (Goes.region ?_))))
        refine GoL.stepS rfl rfl (r_indexAddrN (j := 0) tt133 tt132 rfl rfl (by decide) ?_)
        refine GoL.stepS rfl rfl (r_load (v := .agg #[st [120, 94], .pointer (some ⟨b6, 0, none⟩)]) tt132 rfl (H.ro (hM1 _ _ hb25)) (rd_aggE rfl (by show _ ≤ (4 : Nat); omega) rfl) ?_)
        refine GoL.stepS rfl rfl (r_alloc tt132 H ?_); clear H; intro b9 w hb9 H
        refine GoL.step0 rfl (stA tt132 rfl rfl H (by repeat constructor) rfl rfl (by rfl) ?_); clear H; intro w H
        refine GoL.nil ?_
        refine Goes.seq (Goes.seq ?_)
        rcases List.eq_nil_or_concat ws with hws0 | hws0
        · subst hws0
          refine Goes.regionD0 mixed (by kernel_rfl) 13 H ?_
          refine Ver.read (v := .slice _ _ _) 0 rfl (by kernel_rfl) (fun M' L' w hM H => mvL rfl ⟨rfl, rfl⟩) ?_
          refine Ver.read (v := .int _ _) 1 rfl (by kernel_rfl) (fun M' L' w hM H => r_lenSlice tt86 rfl ⟨rfl, rfl⟩) ?_
          refine Ver.read (v := .bool _) 2 rfl (by kernel_rfl) (fun M' L' w hM H => r_eqlT rfl rfl rfl ⟨rfl, rfl⟩) ?_
          refine Ver.read (v := .bool _) 3 rfl (by kernel_rfl) (fun M' L' w hM H => mvB rfl ⟨rfl, rfl⟩) ?_
          refine Ver.readN 4 rfl (by kernel_rfl) (by intro e; cases e) ?_
          refine Ver.readN 5 rfl (by kernel_rfl) (by intro e; cases e) ?_
          refine Ver.readN 6 rfl (by kernel_rfl) (by intro e; cases e) ?_
          refine Ver.readN 7 rfl (by kernel_rfl) (by intro e; cases e) ?_
          refine Ver.readN 8 rfl (by kernel_rfl) (by intro e; cases e) ?_
          refine Ver.readN 9 rfl (by kernel_rfl) (by intro e; cases e) ?_
          refine Ver.readN 10 rfl (by kernel_rfl) (by intro e; cases e) ?_
          refine Ver.read (v := .bool _) 11 rfl (by kernel_rfl) (fun M' L' w hM H => r_pickT (v := .bool true) rfl rfl ⟨rfl, rfl⟩) ?_
          refine Ver.fin0 (by kernel_rfl) ?_
          clear H; intro w H
          refine Goes.condT rfl (rfl) ?_
          refine Goes.exit rfl (Goes.region ?_)
          first | refine GoL.stepS rfl rfl (r_addI rfl rfl (by first | omega | (dsimp only; omega)) (by first | omega | (dsimp only; omega)) ?_) | refine GoL.stepS rfl rfl (r_add rfl rfl ?_)
          refine GoL.stepS rfl rfl (mvI rfl ?_)
          refine GoL.nil ?_
          exact again (0 + 1, 0, 0, [], (la, lc), M1, []) _ _ ⟨rfl, rfl, trivial⟩ (.of_strip (by kernel_rfl)) ⟨by first | omega | (dsimp only; omega), hnx0 rfl, (fun x hx => by cases hx), hlc, hM1, hrow, H.sel (.cons (by repeat constructor) (.cons (by repeat constructor) .nil))⟩ (by first | omega | (dsimp only; omega))
        · have hws1 : ws ≠ [] := by obtain ⟨l, x, rfl⟩ := hws0; simp
          obtain ⟨w1, ws1, rfl⟩ := List.exists_cons_of_ne_nil hws1
          obtain ⟨qb, qo, qcs, qe, qz, rfl, hMq, hq0⟩ := strRow_at (j := 0) (w := w1) hrow rfl
          have hw1l := hwsl w1 (by simp)
          refine Goes.regionD0 mixed (by kernel_rfl) 13 H ?_
          refine Ver.read (v := .slice _ _ _) 0 rfl (by kernel_rfl) (fun M' L' w hM H => mvL rfl ⟨rfl, rfl⟩) ?_
          refine Ver.read (v := .int _ _) 1 rfl (by kernel_rfl) (fun M' L' w hM H => r_lenSlice tt86 rfl ⟨rfl, rfl⟩) ?_
          refine Ver.read (v := .bool _) 2 rfl (by kernel_rfl) (fun M' L' w hM H => r_eqlF rfl rfl (by simp; omega) ⟨rfl, rfl⟩) ?_
          refine Ver.read (v := .bool _) 3 rfl (by kernel_rfl) (fun M' L' w hM H => mvB rfl ⟨rfl, rfl⟩) ?_
          refine Ver.readY (v := .slice _ _ _) 4 rfl (by kernel_rfl) rfl (fun M' L' w hM H => mvL rfl ⟨rfl, rfl⟩) ?_
          refine Ver.readY (v := .pointer _) 5 rfl (by kernel_rfl) rfl (fun M' L' w hM H => r_indexAddrN (j := 0) tt86 tt9 rfl rfl (by simp) ⟨rfl, rfl⟩) ?_
          refine Ver.readY (v := .string _) 6 rfl (by kernel_rfl) rfl (fun M' L' w hM H => ldS tt9 rfl (H.ro (hM _ _ hMq)) hq0 ⟨rfl, rfl⟩) ?_
          first | refine Ver.readY (v := .pointer _) 7 rfl (by kernel_rfl) rfl (fun M' L' w hM H => r_fieldAddr0 fo132_0 rfl ⟨rfl, rfl⟩) ?_ | refine Ver.readY (v := .pointer _) 7 rfl (by kernel_rfl) rfl (fun M' L' w hM H => r_fieldAddr fo132_0 rfl ⟨rfl, rfl⟩) ?_
          refine Ver.readY (v := .string _) 8 rfl (by kernel_rfl) rfl (fun M' L' w hM H => ldS tt9 rfl (H.own (by repeat constructor)) (by rfl) ⟨rfl, rfl⟩) ?_
          refine Ver.next0Y 9 (by kernel_rfl) rfl (by kernel_rfl) rfl ?_
          clear H; intro w H
          refine r_call cc86 (hasPrefix_spec (s := w1) (p := [120, 94])) H ?_
          clear H; rintro v40 M40 L40 w hM40 ⟨rfl, rfl, rfl⟩ H
          refine ⟨_, hM40, H, ?_⟩
          refine Ver.readY (v := .bool _) 10 rfl (by kernel_rfl) rfl (fun M' L' w hM H => r_not rfl ⟨rfl, rfl⟩) ?_
          refine Ver.read (v := .bool _) 11 rfl (by kernel_rfl) (fun M' L' w hM H => r_pickF (v := .bool _) rfl rfl ⟨rfl, rfl⟩) ?_
          refine Ver.fin0 (by kernel_rfl) ?_
          clear H; intro w H
          refine Goes.cond rfl (fun hpre => ?_) (fun hpre => ?_)
          · have hpre' : [120, 94].isPrefixOf w1 = false := by simpa using hpre
            refine Goes.exit rfl (Goes.region ?_)
            first | refine GoL.stepS rfl rfl (r_addI rfl rfl (by first | omega | (dsimp only; omega)) (by first | omega | (dsimp only; omega)) ?_) | refine GoL.stepS rfl rfl (r_add rfl rfl ?_)
            refine GoL.stepS rfl rfl (mvI rfl ?_)
            refine GoL.nil ?_
            exact again (0 + 1, 0, 0, w1 :: ws1, (some ⟨qb, qo, none⟩, lc), _, []) _ _ ⟨rfl, rfl, trivial⟩ (.of_strip (by kernel_rfl)) ⟨by first | omega | (dsimp only; omega), hnx1 w1 ws1 rfl hpre', hwsl, hlc, hM1, hrow, H.sel (.cons (by repeat constructor) (.cons (by repeat constructor) .nil))⟩ (by first | omega | (dsimp only; omega))
          · have hpre' : [120, 94].isPrefixOf w1 = true := by simpa using hpre
            have hw2 : 2 ≤ w1.length := by
              obtain ⟨t, ht⟩ := List.isPrefixOf_iff_prefix.1 hpre'
              rw [← ht]; simp
            refine Goes.skip (Goes.seq ?_)
            refine Goes.regionD0 mixed (by kernel_rfl) 9 H ?_
            refine Ver.read (v := .slice _ _ _) 0 rfl (by kernel_rfl) (fun M' L' w hM H => mvL rfl ⟨rfl, rfl⟩) ?_
            refine Ver.read (v := .pointer _) 1 rfl (by kernel_rfl) (fun M' L' w hM H => r_indexAddrN (j := 0) tt86 tt9 rfl rfl (by simp) ⟨rfl, rfl⟩) ?_
            refine Ver.read (v := .string _) 2 rfl (by kernel_rfl) (fun M' L' w hM H => ldS tt9 rfl (H.ro (hM _ _ hMq)) hq0 ⟨rfl, rfl⟩) ?_
            first | refine Ver.read (v := .pointer _) 3 rfl (by kernel_rfl) (fun M' L' w hM H => r_fieldAddr0 fo132_0 rfl ⟨rfl, rfl⟩) ?_ | refine Ver.read (v := .pointer _) 3 rfl (by kernel_rfl) (fun M' L' w hM H => r_fieldAddr fo132_0 rfl ⟨rfl, rfl⟩) ?_
            refine Ver.read (v := .string _) 4 rfl (by kernel_rfl) (fun M' L' w hM H => ldS tt9 rfl (H.own (by repeat constructor)) (by rfl) ⟨rfl, rfl⟩) ?_
            refine Ver.read (v := .int _ _) 5 rfl (by kernel_rfl) (fun M' L' w hM H => r_lenS tt9 rfl ⟨rfl, rfl⟩) ?_
            refine Ver.read (v := (st (w1.drop 2))) 6 rfl (by kernel_rfl) (fun M' L' w hM H => r_strFrom (a := w1) (l := 2) tt9 rfl rfl hw2 ⟨rfl, rfl⟩) ?_
            refine Ver.read (v := (st (w1.drop 2))) 7 rfl (by kernel_rfl) (fun M' L' w hM H => asS rfl ⟨rfl, rfl⟩) ?_
            refine Ver.fin0 (by kernel_rfl) ?_
            clear H; intro w H
            refine Goes.seq (Goes.seq (Goes.region ?_))
            refine GoL.stepS rfl rfl (mvS rfl ?_)
            refine GoL.stepS rfl rfl (r_call0 hdr cc85 (number_spec (s := w1.drop 2) (by rw [List.length_drop]; omega)) H ?_); clear H; rintro v51 M51 L51 w hM51 ⟨rfl, rfl, h51⟩ H
            by_cases hn2 : isNum (w1.drop 2) = true
            · rw [hn2] at h51
              subst h51
              refine GoL.stepS rfl rfl (r_not rfl ?_)
              refine GoL.stepS rfl rfl (mvB rfl ?_)
              refine GoL.stepYS rfl rfl rfl (mvS rfl ?_)
              refine GoL.stepYS rfl rfl rfl (r_lenS tt9 rfl ?_)
              refine GoL.stepYS rfl rfl rfl (r_gtr rfl rfl ?_)
              refine GoL.stepS rfl rfl (r_pickF (v := .bool _) rfl rfl ?_)
              refine GoL.nil ?_
              refine Goes.cond rfl (fun hl9 => ?_) (fun hl9 => ?_)
              · have hl9' : ¬ (w1.drop 2).length ≤ 9 := by have : (9 : Int) < ((w1.drop 2).length : Int) := of_decide_eq_true hl9
                                                           omega
                refine Goes.seq ?_
                refine Goes.regionD0 mixed (by kernel_rfl) 5 H ?_
                refine Ver.read (v := .agg _) 0 rfl (by kernel_rfl) (fun M' L' w hM H => ldA tt90 rfl (H.own (by repeat constructor)) rfl (by rfl) ⟨rfl, rfl⟩) ?_
                refine Ver.read (v := .string _) 1 rfl (by kernel_rfl) (fun M' L' w hM H => asS rfl ⟨rfl, rfl⟩) ?_
                refine Ver.bar0 2 (by kernel_rfl) rfl (by kernel_rfl) ?_
                clear H; intro w H
                refine stA tt90 rfl rfl H (by repeat constructor) rfl rfl (by rfl) ?_
                clear H; intro w H
                refine ⟨_, _, RO.le.refl _, H, ?_⟩
                refine Ver.read (v := .bool _) 3 rfl (by kernel_rfl) (fun M' L' w hM H => asB rfl ⟨rfl, rfl⟩) ?_
                refine Ver.fin0 (by kernel_rfl) ?_
                clear H; intro w H
                exact Goes.ret (ret3 (v := .string _) (v' := .agg #[.int _ _, .int _ _]) (v'' := .bool _) rfl rfl rfl (res_agg rfl tt90 (H.own (by repeat constructor)) rfl (by rfl)) rfl H.nil ⟨rfl, .inr ⟨hfail w1 ws1 rfl hpre' fun h => hl9' h.2, [], _, _, rfl⟩⟩)
              · have hl9' : (w1.drop 2).length ≤ 9 := by have : ¬ (9 : Int) < ((w1.drop 2).length : Int) := of_decide_eq_false hl9
                                                         omega
                refine Goes.skip (Goes.seq ?_)
                obtain ⟨M9, hb9, hle9, H⟩ := H.freezeX (i := 0) .head
                refine Goes.regionDX mixed (by kernel_rfl) 10 H ?_
                first | refine Ver.read (v := .pointer _) 0 rfl (by kernel_rfl) (fun M' L' w hM H => r_fieldAddr0 fo132_1 rfl ⟨rfl, rfl⟩) ?_ | refine Ver.read (v := .pointer _) 0 rfl (by kernel_rfl) (fun M' L' w hM H => r_fieldAddr fo132_1 rfl ⟨rfl, rfl⟩) ?_
                refine Ver.read (v := .pointer _) 1 rfl (by kernel_rfl) (fun M' L' w hM H => ldP tt131 rfl (H.ro (hM _ _ hb9)) (by rfl) ⟨rfl, rfl⟩) ?_
                refine Ver.read (v := .string _) 2 rfl (by kernel_rfl) (fun M' L' w hM H => mvS rfl ⟨rfl, rfl⟩) ?_
                refine Ver.nextX 3 (by kernel_rfl) rfl (by kernel_rfl) ?_
                clear H; intro w H
                refine r_call cc87 (atoi_spec (s := w1.drop 2) (by first | omega | (dsimp only; omega)) hn2) H ?_
                clear H; rintro v63 M63 L63 w hM63 ⟨rfl, rfl, rfl⟩ H
                refine ⟨_, _, hM63, H, ?_⟩
                refine Ver.read (v := .tuple _) 4 rfl (by kernel_rfl) (fun M' L' w hM H => mvT rfl ⟨rfl, rfl⟩) ?_
                refine Ver.read (v := .int _ _) 5 rfl (by kernel_rfl) (fun M' L' w hM H => r_extract rfl rfl ⟨rfl, rfl⟩) ?_
                refine Ver.read (v := (.nilIface)) 6 rfl (by kernel_rfl) (fun M' L' w hM H => r_extract rfl rfl ⟨rfl, rfl⟩) ?_
                refine Ver.read (v := .pointer _) 7 rfl (by kernel_rfl) (fun M' L' w hM H => r_nilCheckP rfl ⟨rfl, rfl⟩) ?_
                refine Ver.nextX 8 (by kernel_rfl) rfl (by kernel_rfl) ?_
                clear H; intro w H
                refine r_store1 tt3 rfl rfl H (by repeat constructor) rfl (by simp) ?_
                clear H; intro w H
                refine ⟨_, _, RO.le.refl _, H, ?_⟩
                refine Ver.finX (by kernel_rfl) ?_
                clear H; intro w H
                refine Goes.region ?_
                refine GoL.stepS rfl rfl (mvL rfl ?_)
                refine GoL.stepS rfl rfl (r_slFromRo (l := 1) tt86 tt9 rfl rfl (by simp) hlc (hrow.mono hle9) (by rw [List.length_map, Nat.mul_one]) ?_); intro a68 ha68
                refine GoL.stepS rfl rfl (asL rfl ?_)
                refine GoL.nil ?_
                refine Goes.inBlock (Goes.region ?_)
                first | refine GoL.stepS rfl rfl (r_addI rfl rfl (by first | omega | (dsimp only; omega)) (by first | omega | (dsimp only; omega)) ?_) | refine GoL.stepS rfl rfl (r_add rfl rfl ?_)
                refine GoL.stepS rfl rfl (mvI rfl ?_)
                refine GoL.nil ?_
                exact again (0 + 1, valL (w1.drop 2), 0, ws1, (a68, lc - 1), _, []) _ _ ⟨rfl, by show Value.slice _ _ _ = Value.slice _ _ _; rw [List.length_cons, Nat.add_sub_cancel], trivial⟩ (.of_strip (by kernel_rfl)) ⟨by first | omega | (dsimp only; omega), hnx2 w1 ws1 rfl hpre' hn2 hl9', (fun x hx => hwsl x (by simp [hx])), by dsimp only; rw [List.length_cons] at hlc; omega, RO.le.trans hM1 hle9, ha68, H.sel (.cons (by repeat constructor) (.cons (by repeat constructor) .nil))⟩ (by first | omega | (dsimp only; omega))
            · have hn3 : isNum (w1.drop 2) = false := by simpa using hn2
              rw [hn3] at h51
              subst h51
              refine GoL.stepS rfl rfl (r_not rfl ?_)
              refine GoL.stepS rfl rfl (mvB rfl ?_)
              refine GoL.stepNS rfl rfl rfl ?_
              refine GoL.stepNS rfl rfl rfl ?_
              refine GoL.stepNS rfl rfl rfl ?_
              refine GoL.stepS rfl rfl (r_pickT (v := .bool true) rfl rfl ?_)
              refine GoL.nil ?_
              refine Goes.condT rfl (rfl) ?_
              refine Goes.seq ?_
              refine Goes.regionD0 mixed (by kernel_rfl) 5 H ?_
              refine Ver.read (v := .agg _) 0 rfl (by kernel_rfl) (fun M' L' w hM H => ldA tt90 rfl (H.own (by repeat constructor)) rfl (by rfl) ⟨rfl, rfl⟩) ?_
              refine Ver.read (v := .string _) 1 rfl (by kernel_rfl) (fun M' L' w hM H => asS rfl ⟨rfl, rfl⟩) ?_
              refine Ver.bar0 2 (by kernel_rfl) rfl (by kernel_rfl) ?_
              clear H; intro w H
              refine stA tt90 rfl rfl H (by repeat constructor) rfl rfl (by rfl) ?_
              clear H; intro w H
              refine ⟨_, _, RO.le.refl _, H, ?_⟩
              refine Ver.read (v := .bool _) 3 rfl (by kernel_rfl) (fun M' L' w hM H => asB rfl ⟨rfl, rfl⟩) ?_
              refine Ver.fin0 (by kernel_rfl) ?_
              clear H; intro w H
              exact Goes.ret (ret3 (v := .string _) (v' := .agg #[.int _ _, .int _ _]) (v'' := .bool _) rfl rfl rfl (res_agg rfl tt90 (H.own (by repeat constructor)) rfl (by rfl)) rfl H.nil ⟨rfl, .inr ⟨hfail w1 ws1 rfl hpre' fun h => hn2 h.1, [], _, _, rfl⟩⟩)
      · obtain ⟨rfl, h120⟩ : b = 0 ∧ optW 120 ws0 = some (a, ws) := hinv
        have hnx0 : ws = [] → RInv ws0 2 a 0 [] := fun h => ⟨ws, h120, by rw [h]; rfl⟩
        have hnx1 : ∀ w1 ws1, ws = w1 :: ws1 → [121, 94].isPrefixOf w1 = false → RInv ws0 2 a 0 (w1 :: ws1) := fun w1 ws1 h hp => ⟨ws, h120, by rw [h]; exact optW_skip hp⟩
        have hnx2 : ∀ w1 ws1, ws = w1 :: ws1 → [121, 94].isPrefixOf w1 = true → isNum (w1.drop 2) = true → (w1.drop 2).length ≤ 9 → RInv ws0 2 a (valL (w1.drop 2)) ws1 := fun w1 ws1 h hp hn hl => ⟨ws, h120, by rw [h]; exact optW_take hp hn hl⟩
        have hfail : ∀ w1 ws1, ws = w1 :: ws1 → [121, 94].isPrefixOf w1 = true → ¬ (isNum (w1.drop 2) = true ∧ (w1.drop 2).length ≤ 9) → readW (w0 :: ws0) = none := fun w1 ws1 h hp hn => readW_none2 hnum' h120 (by rw [h]; exact optW_fail hp hn)
        refine Goes.skip (Goes.seq (Goes.block (Goes.seq (Goes.region ?_))))
        refine GoL.stepS rfl rfl (r_indexAddrN (j := 1) tt133 tt132 rfl rfl (by decide) ?_)
        refine GoL.stepS rfl rfl (r_load (v := .agg #[st [121, 94], .pointer (some ⟨b6, 1, none⟩)]) tt132 rfl (H.ro (hM1 _ _ hb25)) (rd_aggE rfl (by show _ ≤ (4 : Nat); omega) rfl) ?_)
        refine GoL.stepS rfl rfl (r_alloc tt132 H ?_); clear H; intro b9 w hb9 H
        refine GoL.step0 rfl (stA tt132 rfl rfl H (by repeat constructor) rfl rfl (by rfl) ?_); clear H; intro w H
        refine GoL.nil ?_
        refine Goes.seq (Goes.seq ?_)
        rcases List.eq_nil_or_concat ws with hws0 | hws0
        · subst hws0
          refine Goes.regionD0 mixed (by kernel_rfl) 13 H ?_
          refine Ver.read (v := .slice _ _ _) 0 rfl (by kernel_rfl) (fun M' L' w hM H => mvL rfl ⟨rfl, rfl⟩) ?_
          refine Ver.read (v := .int _ _) 1 rfl (by kernel_rfl) (fun M' L' w hM H => r_lenSlice tt86 rfl ⟨rfl, rfl⟩) ?_
          refine Ver.read (v := .bool _) 2 rfl (by kernel_rfl) (fun M' L' w hM H => r_eqlT rfl rfl rfl ⟨rfl, rfl⟩) ?_
          refine Ver.read (v := .bool _) 3 rfl (by kernel_rfl) (fun M' L' w hM H => mvB rfl ⟨rfl, rfl⟩) ?_
          refine Ver.readN 4 rfl (by kernel_rfl) (by intro e; cases e) ?_
          refine Ver.readN 5 rfl (by kernel_rfl) (by intro e; cases e) ?_
          refine Ver.readN 6 rfl (by kernel_rfl) (by intro e; cases e) ?_
          refine Ver.readN 7 rfl (by kernel_rfl) (by intro e; cases e) ?_
          refine Ver.readN 8 rfl (by kernel_rfl) (by intro e; cases e) ?_
          refine Ver.readN 9 rfl (by kernel_rfl) (by intro e; cases e) ?_
          refine Ver.readN 10 rfl (by kernel_rfl) (by intro e; cases e) ?_
          refine Ver.read (v := .bool _) 11 rfl (by kernel_rfl) (fun M' L' w hM H => r_pickT (v := .bool true) rfl rfl ⟨rfl, rfl⟩) ?_
          refine Ver.fin0 (by kernel_rfl) ?_
          clear H; intro w H
          refine Goes.condT rfl (rfl) ?_
          refine Goes.exit rfl (Goes.region ?_)
          first | refine GoL.stepS rfl rfl (r_addI rfl rfl (by first | omega | (dsimp only; omega)) (by first | omega | (dsimp only; omega)) ?_) | refine GoL.stepS rfl rfl (r_add rfl rfl ?_)
          refine GoL.stepS rfl rfl (mvI rfl ?_)
          refine GoL.nil ?_
          exact again (1 + 1, a, 0, [], (la, lc), M1, []) _ _ ⟨rfl, rfl, trivial⟩ (.of_strip (by kernel_rfl)) ⟨by first | omega | (dsimp only; omega), hnx0 rfl, (fun x hx => by cases hx), hlc, hM1, hrow, H.sel (.cons (by repeat constructor) (.cons (by repeat constructor) .nil))⟩ (by first | omega | (dsimp only; omega))
        · have hws1 : ws ≠ [] := by obtain ⟨l, x, rfl⟩ := hws0; simp
          obtain ⟨w1, ws1, rfl⟩ := List.exists_cons_of_ne_nil hws1
          obtain ⟨qb, qo, qcs, qe, qz, rfl, hMq, hq0⟩ := strRow_at (j := 0) (w := w1) hrow rfl
          have hw1l := hwsl w1 (by simp)
          refine Goes.regionD0 mixed (by kernel_rfl) 13 H ?_
          refine Ver.read (v := .slice _ _ _) 0 rfl (by kernel_rfl) (fun M' L' w hM H => mvL rfl ⟨rfl, rfl⟩) ?_
          refine Ver.read (v := .int _ _) 1 rfl (by kernel_rfl) (fun M' L' w hM H => r_lenSlice tt86 rfl ⟨rfl, rfl⟩) ?_
          refine Ver.read (v := .bool _) 2 rfl (by kernel_rfl) (fun M' L' w hM H => r_eqlF rfl rfl (by simp; omega) ⟨rfl, rfl⟩) ?_
          refine Ver.read (v := .bool _) 3 rfl (by kernel_rfl) (fun M' L' w hM H => mvB rfl ⟨rfl, rfl⟩) ?_
          refine Ver.readY (v := .slice _ _ _) 4 rfl (by kernel_rfl) rfl (fun M' L' w hM H => mvL rfl ⟨rfl, rfl⟩) ?_
          refine Ver.readY (v := .pointer _) 5 rfl (by kernel_rfl) rfl (fun M' L' w hM H => r_indexAddrN (j := 0) tt86 tt9 rfl rfl (by simp) ⟨rfl, rfl⟩) ?_
          refine Ver.readY (v := .string _) 6 rfl (by kernel_rfl) rfl (fun M' L' w hM H => ldS tt9 rfl (H.ro (hM _ _ hMq)) hq0 ⟨rfl, rfl⟩) ?_
          first | refine Ver.readY (v := .pointer _) 7 rfl (by kernel_rfl) rfl (fun M' L' w hM H => r_fieldAddr0 fo132_0 rfl ⟨rfl, rfl⟩) ?_ | refine Ver.readY (v := .pointer _) 7 rfl (by kernel_rfl) rfl (fun M' L' w hM H => r_fieldAddr fo132_0 rfl ⟨rfl, rfl⟩) ?_
          refine Ver.readY (v := .string _) 8 rfl (by kernel_rfl) rfl (fun M' L' w hM H => ldS tt9 rfl (H.own (by repeat constructor)) (by rfl) ⟨rfl, rfl⟩) ?_
          refine Ver.next0Y 9 (by kernel_rfl) rfl (by kernel_rfl) rfl ?_
          clear H; intro w H
          refine r_call cc86 (hasPrefix_spec (s := w1) (p := [121, 94])) H ?_
          clear H; rintro v40 M40 L40 w hM40 ⟨rfl, rfl, rfl⟩ H
          refine ⟨_, hM40, H, ?_⟩
          refine Ver.readY (v := .bool _) 10 rfl (by kernel_rfl) rfl (fun M' L' w hM H => r_not rfl ⟨rfl, rfl⟩) ?_
          refine Ver.read (v := .bool _) 11 rfl (by kernel_rfl) (fun M' L' w hM H => r_pickF (v := .bool _) rfl rfl ⟨rfl, rfl⟩) ?_
          refine Ver.fin0 (by kernel_rfl) ?_
          clear H; intro w H
          refine Goes.cond rfl (fun hpre => ?_) (fun hpre => ?_)
          · have hpre' : [121, 94].isPrefixOf w1 = false := by simpa using hpre
            refine Goes.exit rfl (Goes.region ?_)
            first | refine GoL.stepS rfl rfl (r_addI rfl rfl (by first | omega | (dsimp only; omega)) (by first | omega | (dsimp only; omega)) ?_) | refine GoL.stepS rfl rfl (r_add rfl rfl ?_)
            refine GoL.stepS rfl rfl (mvI rfl ?_)
            refine GoL.nil ?_
            exact again (1 + 1, a, 0, w1 :: ws1, (some ⟨qb, qo, none⟩, lc), _, []) _ _ ⟨rfl, rfl, trivial⟩ (.of_strip (by kernel_rfl)) ⟨by first | omega | (dsimp only; omega), hnx1 w1 ws1 rfl hpre', hwsl, hlc, hM1, hrow, H.sel (.cons (by repeat constructor) (.cons (by repeat constructor) .nil))⟩ (by first | omega | (dsimp only; omega))
          · have hpre' : [121, 94].isPrefixOf w1 = true := by simpa using hpre
            have hw2 : 2 ≤ w1.length := by
              obtain ⟨t, ht⟩ := List.isPrefixOf_iff_prefix.1 hpre'
              rw [← ht]; simp
            refine Goes.skip (Goes.seq ?_)
            refine Goes.regionD0 mixed (by kernel_rfl) 9 H ?_
            refine Ver.read (v := .slice _ _ _) 0 rfl (by kernel_rfl) (fun M' L' w hM H => mvL rfl ⟨rfl, rfl⟩) ?_
            refine Ver.read (v := .pointer _) 1 rfl (by kernel_rfl) (fun M' L' w hM H => r_indexAddrN (j := 0) tt86 tt9 rfl rfl (by simp) ⟨rfl, rfl⟩) ?_
            refine Ver.read (v := .string _) 2 rfl (by kernel_rfl) (fun M' L' w hM H => ldS tt9 rfl (H.ro (hM _ _ hMq)) hq0 ⟨rfl, rfl⟩) ?_
            first | refine Ver.read (v := .pointer _) 3 rfl (by kernel_rfl) (fun M' L' w hM H => r_fieldAddr0 fo132_0 rfl ⟨rfl, rfl⟩) ?_ | refine Ver.read (v := .pointer _) 3 rfl (by kernel_rfl) (fun M' L' w hM H => r_fieldAddr fo132_0 rfl ⟨rfl, rfl⟩) ?_
            refine Ver.read (v := .string _) 4 rfl (by kernel_rfl) (fun M' L' w hM H => ldS tt9 rfl (H.own (by repeat constructor)) (by rfl) ⟨rfl, rfl⟩) ?_
            refine Ver.read (v := .int _ _) 5 rfl (by kernel_rfl) (fun M' L' w hM H => r_lenS tt9 rfl ⟨rfl, rfl⟩) ?_
            refine Ver.read (v := (st (w1.drop 2))) 6 rfl (by kernel_rfl) (fun M' L' w hM H => r_strFrom (a := w1) (l := 2) tt9 rfl rfl hw2 ⟨rfl, rfl⟩) ?_
            refine Ver.read (v := (st (w1.drop 2))) 7 rfl (by kernel_rfl) (fun M' L' w hM H => asS rfl ⟨rfl, rfl⟩) ?_
            refine Ver.fin0 (by kernel_rfl) ?_
            clear H; intro w H
            refine Goes.seq (Goes.seq (Goes.region ?_))
            refine GoL.stepS rfl rfl (mvS rfl ?_)
            refine GoL.stepS rfl rfl (r_call0 hdr cc85 (number_spec (s := w1.drop 2) (by rw [List.length_drop]; omega)) H ?_); clear H; rintro v51 M51 L51 w hM51 ⟨rfl, rfl, h51⟩ H
            by_cases hn2 : isNum (w1.drop 2) = true
            · rw [hn2] at h51
              subst h51
              refine GoL.stepS rfl rfl (r_not rfl ?_)
              refine GoL.stepS rfl rfl (mvB rfl ?_)
              refine GoL.stepYS rfl rfl rfl (mvS rfl ?_)
              refine GoL.stepYS rfl rfl rfl (r_lenS tt9 rfl ?_)
              refine GoL.stepYS rfl rfl rfl (r_gtr rfl rfl ?_)
              refine GoL.stepS rfl rfl (r_pickF (v := .bool _) rfl rfl ?_)
              refine GoL.nil ?_
              refine Goes.cond rfl (fun hl9 => ?_) (fun hl9 => ?_)
              · have hl9' : ¬ (w1.drop 2).length ≤ 9 := by have : (9 : Int) < ((w1.drop 2).length : Int) := of_decide_eq_true hl9
                                                           omega
                refine Goes.seq ?_
                refine Goes.regionD0 mixed (by kernel_rfl) 5 H ?_
                refine Ver.read (v := .agg _) 0 rfl (by kernel_rfl) (fun M' L' w hM H => ldA tt90 rfl (H.own (by repeat constructor)) rfl (by rfl) ⟨rfl, rfl⟩) ?_
                refine Ver.read (v := .string _) 1 rfl (by kernel_rfl) (fun M' L' w hM H => asS rfl ⟨rfl, rfl⟩) ?_
                refine Ver.bar0 2 (by kernel_rfl) rfl (by kernel_rfl) ?_
                clear H; intro w H
                refine stA tt90 rfl rfl H (by repeat constructor) rfl rfl (by rfl) ?_
                clear H; intro w H
                refine ⟨_, _, RO.le.refl _, H, ?_⟩
                refine Ver.read (v := .bool _) 3 rfl (by kernel_rfl) (fun M' L' w hM H => asB rfl ⟨rfl, rfl⟩) ?_
                refine Ver.fin0 (by kernel_rfl) ?_
                clear H; intro w H
                exact Goes.ret (ret3 (v := .string _) (v' := .agg #[.int _ _, .int _ _]) (v'' := .bool _) rfl rfl rfl (res_agg rfl tt90 (H.own (by repeat constructor)) rfl (by rfl)) rfl H.nil ⟨rfl, .inr ⟨hfail w1 ws1 rfl hpre' fun h => hl9' h.2, [], _, _, rfl⟩⟩)
              · have hl9' : (w1.drop 2).length ≤ 9 := by have : ¬ (9 : Int) < ((w1.drop 2).length : Int) := of_decide_eq_false hl9
                                                         omega
                refine Goes.skip (Goes.seq ?_)
                obtain ⟨M9, hb9, hle9, H⟩ := H.freezeX (i := 0) .head
                refine Goes.regionDX mixed (by kernel_rfl) 10 H ?_
                first | refine Ver.read (v := .pointer _) 0 rfl (by kernel_rfl) (fun M' L' w hM H => r_fieldAddr0 fo132_1 rfl ⟨rfl, rfl⟩) ?_ | refine Ver.read (v := .pointer _) 0 rfl (by kernel_rfl) (fun M' L' w hM H => r_fieldAddr fo132_1 rfl ⟨rfl, rfl⟩) ?_
                refine Ver.read (v := .pointer _) 1 rfl (by kernel_rfl) (fun M' L' w hM H => ldP tt131 rfl (H.ro (hM _ _ hb9)) (by rfl) ⟨rfl, rfl⟩) ?_
                refine Ver.read (v := .string _) 2 rfl (by kernel_rfl) (fun M' L' w hM H => mvS rfl ⟨rfl, rfl⟩) ?_
                refine Ver.nextX 3 (by kernel_rfl) rfl (by kernel_rfl) ?_
                clear H; intro w H
                refine r_call cc87 (atoi_spec (s := w1.drop 2) (by first | omega | (dsimp only; omega)) hn2) H ?_
                clear H; rintro v63 M63 L63 w hM63 ⟨rfl, rfl, rfl⟩ H
                refine ⟨_, _, hM63, H, ?_⟩
                refine Ver.read (v := .tuple _) 4 rfl (by kernel_rfl) (fun M' L' w hM H => mvT rfl ⟨rfl, rfl⟩) ?_
                refine Ver.read (v := .int _ _) 5 rfl (by kernel_rfl) (fun M' L' w hM H => r_extract rfl rfl ⟨rfl, rfl⟩) ?_
                refine Ver.read (v := (.nilIface)) 6 rfl (by kernel_rfl) (fun M' L' w hM H => r_extract rfl rfl ⟨rfl, rfl⟩) ?_
                refine Ver.read (v := .pointer _) 7 rfl (by kernel_rfl) (fun M' L' w hM H => r_nilCheckP rfl ⟨rfl, rfl⟩) ?_
                refine Ver.nextX 8 (by kernel_rfl) rfl (by kernel_rfl) ?_
                clear H; intro w H
                refine r_store1 tt3 rfl rfl H (by repeat constructor) rfl (by simp) ?_
                clear H; intro w H
                refine ⟨_, _, RO.le.refl _, H, ?_⟩
                refine Ver.finX (by kernel_rfl) ?_
                clear H; intro w H
                refine Goes.region ?_
                refine GoL.stepS rfl rfl (mvL rfl ?_)
                refine GoL.stepS rfl rfl (r_slFromRo (l := 1) tt86 tt9 rfl rfl (by simp) hlc (hrow.mono hle9) (by rw [List.length_map, Nat.mul_one]) ?_); intro a68 ha68
                refine GoL.stepS rfl rfl (asL rfl ?_)
                refine GoL.nil ?_
                refine Goes.inBlock (Goes.region ?_)
                first | refine GoL.stepS rfl rfl (r_addI rfl rfl (by first | omega | (dsimp only; omega)) (by first | omega | (dsimp only; omega)) ?_) | refine GoL.stepS rfl rfl (r_add rfl rfl ?_)
                refine GoL.stepS rfl rfl (mvI rfl ?_)
                refine GoL.nil ?_
                exact again (1 + 1, a, valL (w1.drop 2), ws1, (a68, lc - 1), _, []) _ _ ⟨rfl, by show Value.slice _ _ _ = Value.slice _ _ _; rw [List.length_cons, Nat.add_sub_cancel], trivial⟩ (.of_strip (by kernel_rfl)) ⟨by first | omega | (dsimp only; omega), hnx2 w1 ws1 rfl hpre' hn2 hl9', (fun x hx => hwsl x (by simp [hx])), by dsimp only; rw [List.length_cons] at hlc; omega, RO.le.trans hM1 hle9, ha68, H.sel (.cons (by repeat constructor) (.cons (by repeat constructor) .nil))⟩ (by first | omega | (dsimp only; omega))
            · have hn3 : isNum (w1.drop 2) = false := by simpa using hn2
              rw [hn3] at h51
              subst h51
              refine GoL.stepS rfl rfl (r_not rfl ?_)
              refine GoL.stepS rfl rfl (mvB rfl ?_)
              refine GoL.stepNS rfl rfl rfl ?_
              refine GoL.stepNS rfl rfl rfl ?_
              refine GoL.stepNS rfl rfl rfl ?_
              refine GoL.stepS rfl rfl (r_pickT (v := .bool true) rfl rfl ?_)
              refine GoL.nil ?_
              refine Goes.condT rfl (rfl) ?_
              refine Goes.seq ?_
              refine Goes.regionD0 mixed (by kernel_rfl) 5 H ?_
              refine Ver.read (v := .agg _) 0 rfl (by kernel_rfl) (fun M' L' w hM H => ldA tt90 rfl (H.own (by repeat constructor)) rfl (by rfl) ⟨rfl, rfl⟩) ?_
              refine Ver.read (v := .string _) 1 rfl (by kernel_rfl) (fun M' L' w hM H => asS rfl ⟨rfl, rfl⟩) ?_
              refine Ver.bar0 2 (by kernel_rfl) rfl (by kernel_rfl) ?_
              clear H; intro w H
              refine stA tt90 rfl rfl H (by repeat constructor) rfl rfl (by rfl) ?_
              clear H; intro w H
              refine ⟨_, _, RO.le.refl _, H, ?_⟩
              refine Ver.read (v := .bool _) 3 rfl (by kernel_rfl) (fun M' L' w hM H => asB rfl ⟨rfl, rfl⟩) ?_
              refine Ver.fin0 (by kernel_rfl) ?_
              clear H; intro w H
              exact Goes.ret (ret3 (v := .string _) (v' := .agg #[.int _ _, .int _ _]) (v'' := .bool _) rfl rfl rfl (res_agg rfl tt90 (H.own (by repeat constructor)) rfl (by rfl)) rfl H.nil ⟨rfl, .inr ⟨hfail w1 ws1 rfl hpre' fun h => hn2 h.1, [], _, _, rfl⟩⟩)
    · have hj3 : j = 2 := by have : ¬ (j : Int) < 2 := by simpa using hlt
                             omega
      subst hj3
      obtain ⟨ws1, h120, h121⟩ : ∃ ws1, optW 120 ws0 = some (a, ws1) ∧ optW 121 ws1 = some (b, ws) := hinv
      have hsome := readW_some hnum' h120 h121
      obtain ⟨v1, v2⟩ := decDigits_valL hnum'
      refine Goes.exit rfl (Goes.seq ?_)
      obtain ⟨M6, hb6', hle6, H⟩ := H.freezeX (i := 0) .head
      refine Goes.regionDX mixed (by kernel_rfl) 11 H ?_
      refine Ver.read (v := .slice _ _ _) 0 rfl (by kernel_rfl) (fun M' L' w hM H => mvL rfl ⟨rfl, rfl⟩) ?_
      refine Ver.read (v := .pointer _) 1 rfl (by kernel_rfl) (fun M' L' w hM H => r_indexAddrN (j := 0) tt86 tt9 rfl rfl (by first | omega | (dsimp only; omega)) ⟨rfl, rfl⟩) ?_
      refine Ver.read (v := .string _) 2 rfl (by kernel_rfl) (fun M' L' w hM H => ldS tt9 rfl (H.ro (hM _ _ (hle6 _ _ (hM1 _ _ (hM25 _ _ hMq))))) hq0 ⟨rfl, rfl⟩) ?_
      refine Ver.read (v := .agg _) 3 rfl (by kernel_rfl) (fun M' L' w hM H => ldA tt90 rfl (H.ro (hM _ _ hb6')) rfl (by rfl) ⟨rfl, rfl⟩) ?_
      refine Ver.read (v := .slice _ _ _) 4 rfl (by kernel_rfl) (fun M' L' w hM H => mvL rfl ⟨rfl, rfl⟩) ?_
      refine Ver.read (v := .int _ _) 5 rfl (by kernel_rfl) (fun M' L' w hM H => r_lenSlice tt86 rfl ⟨rfl, rfl⟩) ?_
      refine Ver.read (v := .bool _) 6 rfl (by kernel_rfl) (fun M' L' w hM H => r_eql rfl rfl ⟨rfl, rfl⟩) ?_
      refine Ver.read (v := .string _) 7 rfl (by kernel_rfl) (fun M' L' w hM H => asS rfl ⟨rfl, rfl⟩) ?_
      refine Ver.nextX 8 (by kernel_rfl) rfl (by kernel_rfl) ?_
      clear H; intro w H
      refine stA tt90 rfl rfl H (by repeat constructor) rfl rfl (by rfl) ?_
      clear H; intro w H
      refine ⟨_, _, RO.le.refl _, H, ?_⟩
      refine Ver.read (v := .bool _) 9 rfl (by kernel_rfl) (fun M' L' w hM H => asB rfl ⟨rfl, rfl⟩) ?_
      refine Ver.finX (by kernel_rfl) ?_
      clear H; intro w H
      refine Goes.ret (ret3 (v := .string _) (v' := .agg #[.int _ _, .int _ _]) (v'' := .bool _) rfl rfl rfl (res_agg rfl tt90 (H.own (by repeat constructor)) rfl (by rfl)) rfl H.nil ⟨rfl, ?_⟩)
      by_cases hw : ws = []
      · subst hw
        refine .inl ⟨_, by rw [hsome, if_pos rfl], ?_⟩
        dsimp only
        rw [v2]; rfl
      · refine .inr ⟨by rw [hsome, if_neg hw], w0, a, b, ?_⟩
        have : (((ws.length : Int) == 0)) = false := by
          rw [beq_eq_false_iff_ne]
          intro h; exact hw (List.eq_nil_of_length_eq_zero (by omega))
        dsimp only
        rw [this]; rfl

end Go.Proofs.YtlcpdkckldlceaaGreatDoor
namespace Go.Proofs.YtlcpdkckldlceaaGreatDoor
open Go.Sx Go.Nat32 Go.Dec Go.PolyL Go.Lib Go.Proofs
attribute [local irreducible] pt sl itc itm
set_option maxRecDepth 100000
set_option linter.unusedVariables false
set_option linter.unusedSimpArgs false
set_option maxHeartbeats 1000000

theorem far_spec {M : RO} {a b : Nat} : Sp Tryz.prog 55 [.agg #[.int .i64 (a : Int), .int .i64 (b : Int)]] M [] fun r M' L' => L' = [] ∧ M' = M ∧ r = .bool (decide (2048 < max a b)) := by
  refine Sp.enter (n := 9) Tryz.func55 rfl Tryz.ntmps55 rfl ?_
  intro E hE H
  subst hE
  refine Goes.seq (Goes.region ?_)
  refine GoL.stepS rfl rfl (bxA rfl H ?_); clear H; intro b1 w hb1 H
  refine GoL.stepS rfl rfl (asB rfl ?_)
  refine GoL.nil ?_
  refine Goes.seq (Goes.region ?_)
  first | refine GoL.stepS rfl rfl (r_fieldAddr0 fo90_0 rfl ?_) | refine GoL.stepS rfl rfl (r_fieldAddr fo90_0 rfl ?_)
  refine GoL.stepS rfl rfl (ldI tt3 rfl (H.own (by repeat constructor)) (by rfl) ?_)
  first | refine GoL.stepS rfl rfl (r_fieldAddr0 fo90_1 rfl ?_) | refine GoL.stepS rfl rfl (r_fieldAddr fo90_1 rfl ?_)
  refine GoL.stepS rfl rfl (ldI tt3 rfl (H.own (by repeat constructor)) (by rfl) ?_)
  refine GoL.stepS rfl rfl (r_max2 rfl rfl ?_)
  refine GoL.stepS rfl rfl (r_gtr rfl rfl ?_)
  refine GoL.stepS rfl rfl (asB rfl ?_)
  refine GoL.nil ?_
  refine Goes.ret (ret1 (v := .bool _) rfl rfl rfl H.nil ⟨rfl, rfl, ?_⟩)
  have : decide ((2048 : Int) < max (a : Int) (b : Int)) = decide (2048 < max a b) := by
    rw [decide_eq_decide]; omega
  rw [this]

theorem indexFar_spec {M : RO} {pa : Option Addr} {pc : Nat} {ks : List (Nat × Nat)} (hr : RoRow M pa (flat ks)) (hl : ks.length ≤ 1000000) :
    Sp Tryz.prog 90 [.slice pa ks.length pc, .func (.func 55) #[] #[]] M [] fun r M' L' => L' = [] ∧ M' = M ∧ ∃ x : Int, r = .int .i64 x ∧ (0 ≤ x ↔ ∃ k ∈ ks, 2048 < max k.1 k.2) := by
  refine Sp.enter (n := 19) Tryz.func90 rfl Tryz.ntmps90 rfl ?_
  intro E hE H
  subst hE
  have hc55 : callable Tryz.prog 55 = true := by kernel_rfl
  refine Goes.seq (Goes.region ?_)
  refine GoL.stepS rfl rfl (asI rfl ?_)
  refine GoL.nil ?_
  refine Goes.seq (Goes.seq (Goes.region ?_))
  refine GoL.stepS rfl rfl (mvL rfl ?_)
  refine GoL.stepS rfl rfl (r_lenSlice tt87 rfl ?_)
  refine GoL.stepS rfl rfl (mvI rfl ?_)
  refine GoL.nil ?_
  refine Goes.block ?_
  refine Goes.loopS [4, 5, 8, 9, 10, 11, 12, 13, 14, 15, 16, 17, 18] (fun (i : Nat) => [(8, .int .i64 (i : Int))]) (fun i w => i ≤ ks.length ∧ (∀ k ∈ ks.take i, ¬ 2048 < max k.1 k.2) ∧ Hp E E.M [] w) (fun i => ks.length - i) 0 ⟨rfl, trivial⟩ ⟨Nat.zero_le _, (fun k hk => by simp at hk), H⟩ ?_
  clear H
  rintro i f1 w ⟨hi, hno, H⟩ again
  refine Goes.seq (Goes.region ?_)
  refine GoL.stepS rfl rfl (r_lss rfl rfl ?_)
  refine GoL.nil ?_
  refine Goes.seq ?_
  refine Goes.cond rfl (fun hlt => ?_) (fun hlt => ?_)
  · have hin : i < ks.length := by have : (i : Int) < (ks.length : Int) := by simpa using hlt
                                   omega
    obtain ⟨⟨ta, tb⟩, ht⟩ : ∃ q, ks[i]? = some q := ⟨ks[i], List.getElem?_eq_getElem hin⟩
    obtain ⟨qb, qo, qcs, qe, qz, rfl, hMq, hqs, hqx⟩ := RowP.at hr ht
    have htk : ks.take (i + 1) = ks.take i ++ [(ta, tb)] := by rw [List.take_add_one, ht]; rfl
    dsimp only at hqx
    refine Goes.skip (Goes.seq (Goes.block (Goes.seq (Goes.region ?_))))
    refine GoL.stepS rfl rfl (mvI rfl ?_)
    refine GoL.stepS rfl rfl (asI rfl ?_)
    refine GoL.nil ?_
    refine Goes.seq (Goes.region ?_)
    refine GoL.stepS rfl rfl (mvF rfl ?_)
    refine GoL.stepS rfl rfl (mvL rfl ?_)
    refine GoL.stepS rfl rfl (mvI rfl ?_)
    refine GoL.stepS rfl rfl (r_indexAddrN tt87 tt90 rfl rfl hin ?_)
    refine GoL.stepS rfl rfl (r_load (v := .agg #[.int .i64 (ta : Int), .int .i64 (tb : Int)]) tt90 rfl (H.ro hMq) (rd_aggE rfl hqs hqx) ?_)
    refine GoL.stepS rfl rfl (r_callV hc55 rfl (far_spec (a := ta) (b := tb)) H ?_); clear H; rintro v16 M16 L16 w hM16 ⟨rfl, rfl, rfl⟩ H
    refine GoL.nil ?_
    refine Goes.cond rfl (fun hf => ?_) (fun hf => ?_)
    · have hf' : 2048 < max ta tb := of_decide_eq_true hf
      refine Goes.seq (Goes.region ?_)
      refine GoL.stepS rfl rfl (mvI rfl ?_)
      refine GoL.stepS rfl rfl (asI rfl ?_)
      refine GoL.nil ?_
      refine Goes.ret (ret1 (v := .int _ _) rfl rfl rfl H.nil ⟨rfl, rfl, _, rfl, ?_⟩)
      exact ⟨fun _ => ⟨_, List.mem_of_getElem? ht, hf'⟩, fun _ => Int.natCast_nonneg _⟩
    · have hf' : ¬ 2048 < max ta tb := of_decide_eq_false hf
      refine Goes.skip (Goes.inBlock (Goes.region ?_))
      first | refine GoL.stepS rfl rfl (r_addI rfl rfl (by first | omega | (dsimp only; omega)) (by first | omega | (dsimp only; omega)) ?_) | refine GoL.stepS rfl rfl (r_add rfl rfl ?_)
      refine GoL.stepS rfl rfl (mvI rfl ?_)
      refine GoL.nil ?_
      refine again (i + 1) _ _ ⟨rfl, trivial⟩ (.of_strip (by kernel_rfl)) ⟨by omega, ?_, H⟩ (by omega)
      intro k hk
      rw [htk] at hk
      rcases List.mem_append.1 hk with hk | hk
      · exact hno k hk
      · obtain rfl := List.mem_singleton.1 hk; exact hf'
  · have hin : i = ks.length := by have : ¬ (i : Int) < (ks.length : Int) := by simpa using hlt
                                   omega
    subst hin
    rw [List.take_length] at hno
    refine Goes.exit rfl (Goes.seq (Goes.region ?_))
    refine GoL.stepS rfl rfl (asI rfl ?_)
    refine GoL.nil ?_
    refine Goes.ret (ret1 (v := .int _ _) rfl rfl rfl H.nil ⟨rfl, rfl, -1, rfl, ?_⟩)
    exact ⟨fun h => absurd h (by decide), fun ⟨k, hk, h⟩ => absurd h (hno k hk)⟩

theorem containsFar_spec {M : RO} {pa : Option Addr} {pc : Nat} {ks : List (Nat × Nat)} (hr : RoRow M pa (flat ks)) (hl : ks.length ≤ 1000000) :
    Sp Tryz.prog 54 [.slice pa ks.length pc, .func (.func 55) #[] #[]] M [] fun r M' L' => L' = [] ∧ M' = M ∧ ∃ t, r = .bool t ∧ (t = true ↔ ∃ k ∈ ks, 2048 < max k.1 k.2) := by
  refine Sp.enter (n := 9) Tryz.func54 rfl Tryz.ntmps54 rfl ?_
  intro E hE H
  subst hE
  refine Goes.seq (Goes.region ?_)
  refine GoL.stepS rfl rfl (asB rfl ?_)
  refine GoL.nil ?_
  refine Goes.seq (Goes.region ?_)
  refine GoL.stepS rfl rfl (mvL rfl ?_)
  refine GoL.stepS rfl rfl (mvF rfl ?_)
  refine GoL.stepS rfl rfl (r_call cc90 (indexFar_spec hr hl) H ?_); clear H; rintro v7 M7 L7 w hM7 ⟨rfl, rfl, x, rfl, hx⟩ H
  refine GoL.stepS rfl rfl (r_geq rfl rfl ?_)
  refine GoL.stepS rfl rfl (asB rfl ?_)
  refine GoL.nil ?_
  exact Goes.ret (ret1 (v := .bool _) rfl rfl rfl H.nil ⟨rfl, rfl, _, rfl, by rw [decide_eq_true_eq]; exact hx⟩)

end Go.Proofs.YtlcpdkckldlceaaGreatDoor
