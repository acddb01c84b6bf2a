/-
  Plain laws of numbers by 32-bit words, of polynomials by coefficients, of decimal texts and of the grammar of polynomial texts.
-/
import Derived.Test.YtlcpdkckldlceaaGreatDoorFB
import Derived.Lib.Repeat
import Derived.Lib.ItoaNum
import Derived.Lib.Join
import Derived.Lib.Split
import Derived.Lib.Atoi
import Derived.Lib.SlTrimSet
namespace Go.Nat32
open Go.Sx

/-- The number whose words are given. -/
def wv : List Nat → Nat
  | [] => 0
  | x :: l => x + 4294967296 * wv l

def small (l : List Nat) : Prop := ∀ x ∈ l, x < 4294967296

/-- Without the zeros at the end. -/
def trimz (l : List Nat) : List Nat := (l.reverse.dropWhile (· == 0)).reverse

def canon (l : List Nat) : Prop := l.getLast? ≠ some 0

def uv (x : Nat) : Value := .int .u32 (x : Int)

/-- The slice value holds these words, read-only. -/
structure Row32 (M : RO) (a : Option Addr) (n c : Nat) (ws : List Nat) : Prop where
  len : n = ws.length
  cap : n ≤ c
  big : n ≤ 1073741824
  small : small ws
  row : RoRow M a (ws.map uv)

theorem Row32.mono {M M' : RO} {a : Option Addr} {n c : Nat} {ws : List Nat} (h : Row32 M a n c ws) (hM : M.le M') : Row32 M' a n c ws := ⟨h.len, h.cap, h.big, h.small, h.row.mono hM⟩

theorem Row32.take {M : RO} {a : Option Addr} {n c : Nat} {ws : List Nat} (h : Row32 M a n c ws) {k : Nat} (hk : k ≤ n) : Row32 M a k c (ws.take k) :=
  ⟨by rw [List.length_take]; have := h.len; omega, by have := h.cap; omega, by have := h.big; omega, fun x hx => h.small x (List.mem_of_mem_take hx), by rw [List.map_take]; exact h.row.take k⟩

theorem Row32.at {M : RO} {a : Option Addr} {n c : Nat} {ws : List Nat} (h : Row32 M a n c ws) {j : Nat} (hj : j < n) : ∃ b o cs e z, a = some ⟨b, o, none⟩ ∧ M b = some (.cells cs e z) ∧ cs[o + j]? = some (uv (ws.getD j 0)) := by
  have hlt : j < ws.length := by have := h.len; omega
  refine h.row.at (v := uv (ws.getD j 0)) ?_
  rw [List.getElem?_map, List.getElem?_eq_getElem hlt, List.getD_eq_getElem?_getD, List.getElem?_eq_getElem hlt]; rfl

theorem trimz_snoc_zero (l : List Nat) : trimz (l ++ [0]) = trimz l := by
  simp [trimz]
theorem trimz_snoc_pos (l : List Nat) {x : Nat} (hx : x ≠ 0) : trimz (l ++ [x]) = l ++ [x] := by
  simp [trimz, hx]
theorem trimz_nil : trimz [] = [] := rfl

theorem take_snoc {l : List Nat} {k : Nat} (hk : k < l.length) : l.take (k + 1) = l.take k ++ [l.getD k 0] := by
  rw [List.take_succ_eq_append_getElem hk, List.getD_eq_getElem?_getD, List.getElem?_eq_getElem hk]; rfl

/-- What 'join' computes: the words so far and the carry. -/
def jn (step : Nat → Nat → Nat × Nat) : Nat → List Nat × Nat
  | 0 => ([], 0)
  | i + 1 => ((jn step i).1 ++ [(step i (jn step i).2).1], (step i (jn step i).2).2)
def joinW (step : Nat → Nat → Nat × Nat) (n : Nat) : List Nat := if 0 < (jn step n).2 then (jn step n).1 ++ [(jn step n).2] else (jn step n).1

theorem jn_length (step : Nat → Nat → Nat × Nat) (n : Nat) : (jn step n).1.length = n := by
  induction n with
  | zero => rfl
  | succ n ih => simp [jn, ih]
theorem jn_small {step : Nat → Nat → Nat × Nat} {n : Nat} (h : ∀ i, i < n → (step i (jn step i).2).1 < 4294967296) : small (jn step n).1 := by
  induction n with
  | zero => intro x hx; cases hx
  | succ n ih =>
    intro x hx
    simp only [jn, List.mem_append, List.mem_singleton] at hx
    rcases hx with hx | rfl
    · exact ih (fun i hi => h i (by omega)) x hx
    · exact h n (by omega)

theorem wrap_u32_nat (s : Nat) : IntKind.wrap .u32 (s : Int) = ((s % 4294967296 : Nat) : Int) := by
  have e : IntKind.u32.wrap (s : Int) = (s : Int) % 4294967296 := rfl
  rw [e]; omega

theorem uv_map_append (l : List Nat) (x : Nat) : (l ++ [x]).map uv = l.map uv ++ [uv x] := by simp

theorem Row32.of_sl {M : RO} {a : Option Addr} {n c : Nat} {ws : List Nat} (hl : (ws.map uv).length = n * 1) (hc : n ≤ c) (hb : ws.length ≤ 1073741824) (hs : Go.Nat32.small ws) (hr : RoRow M a (ws.map uv)) : Row32 M a n c ws :=
  ⟨by simpa using hl.symm, hc, by simp at hl; omega, hs, hr⟩

def addStep (wa wb : List Nat) (i c : Nat) : Nat × Nat := ((wa.getD i 0 + wb.getD i 0 + c) % 4294967296, (wa.getD i 0 + wb.getD i 0 + c) / 4294967296)
def smallStep (wa : List Nat) (n plus : Nat) (i c : Nat) : Nat × Nat :=
  ((wa.getD i 0 * n + (if i = 0 then plus else c)) % 4294967296, (wa.getD i 0 * n + (if i = 0 then plus else c)) / 4294967296)

theorem small.getD {l : List Nat} (h : small l) (i : Nat) : l.getD i 0 < 4294967296 := by
  rw [List.getD_eq_getElem?_getD]
  cases hi : l[i]? with
  | none => simp
  | some x => simpa using h x (List.mem_of_getElem? hi)

/-! The product, as it is computed. -/
def mulIn (x : Nat) (wb : List Nat) (i : Nat) (o : List Nat) : Nat → List Nat × Nat
  | 0 => (o, 0)
  | k + 1 =>
    ((mulIn x wb i o k).1.set (i + k) ((x * wb.getD k 0 + (mulIn x wb i o k).1.getD (i + k) 0 + (mulIn x wb i o k).2) % 4294967296),
     (x * wb.getD k 0 + (mulIn x wb i o k).1.getD (i + k) 0 + (mulIn x wb i o k).2) / 4294967296)
def mulOut (wa wb : List Nat) : Nat → List Nat
  | 0 => List.replicate (wa.length + wb.length) 0
  | i + 1 => (mulIn (wa.getD i 0) wb i (mulOut wa wb i) wb.length).1.set (i + wb.length) (mulIn (wa.getD i 0) wb i (mulOut wa wb i) wb.length).2

theorem small_set {l : List Nat} (h : small l) (i : Nat) {x : Nat} (hx : x < 4294967296) : small (l.set i x) := by
  intro y hy
  rcases List.mem_or_eq_of_mem_set hy with hy | rfl
  · exact h y hy
  · exact hx
theorem mulIn_length (x : Nat) (wb : List Nat) (i : Nat) (o : List Nat) (k : Nat) : (mulIn x wb i o k).1.length = o.length := by
  induction k with
  | zero => rfl
  | succ k ih => simp [mulIn, ih]
theorem mulIn_bound {x : Nat} {wb : List Nat} {i : Nat} {o : List Nat} (hx : x < 4294967296) (hb : small wb) (ho : small o) (k : Nat) : small (mulIn x wb i o k).1 ∧ (mulIn x wb i o k).2 < 4294967296 := by
  induction k with
  | zero => exact ⟨ho, Nat.zero_lt_succ _⟩
  | succ k ih =>
    refine ⟨small_set ih.1 _ (Nat.mod_lt _ (by decide)), ?_⟩
    have h1 := ih.1.getD (i + k)
    have h2 := hb.getD k
    have h3 : x * wb.getD k 0 ≤ 4294967295 * 4294967295 := Nat.mul_le_mul (by omega) (by omega)
    simp only [mulIn]; omega
theorem mulOut_length (wa wb : List Nat) (i : Nat) : (mulOut wa wb i).length = wa.length + wb.length := by
  induction i with
  | zero => simp [mulOut]
  | succ i ih => simp [mulOut, mulIn_length, ih]
theorem mulOut_small {wa wb : List Nat} (ha : small wa) (hb : small wb) (i : Nat) : small (mulOut wa wb i) := by
  induction i with
  | zero => intro x hx; rw [mulOut] at hx; have := List.eq_of_mem_replicate hx; omega
  | succ i ih =>
    have := mulIn_bound (i := i) (ha.getD i) hb ih wb.length
    exact small_set this.1 _ this.2

theorem row_get (ws : List Nat) {j : Nat} (hj : j < ws.length) : (ws.map uv).toArray[j]? = some (uv (ws.getD j 0)) := by
  rw [List.getElem?_toArray, List.getElem?_map, List.getElem?_eq_getElem hj, List.getD_eq_getElem?_getD, List.getElem?_eq_getElem hj]; rfl
theorem row_set (ws : List Nat) (j x : Nat) : (ws.map uv).toArray.setIfInBounds j (uv x) = ((ws.set j x).map uv).toArray := by
  rw [List.setIfInBounds_toArray, List.map_set]

/-! Division by one word. -/
def divW (k : Nat) : List Nat → List Nat × Nat
  | [] => ([], 0)
  | x :: l => (((divW k l).2 * 4294967296 + x) / k :: (divW k l).1, ((divW k l).2 * 4294967296 + x) % k)

theorem divW_length (k : Nat) (l : List Nat) : (divW k l).1.length = l.length := by
  induction l with
  | nil => rfl
  | cons x l ih => simp [divW, ih]
theorem divW_lt {k : Nat} (hk : 0 < k) (l : List Nat) : (divW k l).2 < k := by
  cases l with
  | nil => exact hk
  | cons x l => exact Nat.mod_lt _ hk
theorem divW_small {k : Nat} (hk : 0 < k) {l : List Nat} (hs : small l) : small (divW k l).1 := by
  induction l with
  | nil => intro x hx; cases hx
  | cons x l ih =>
    intro y hy
    simp only [divW, List.mem_cons] at hy
    rcases hy with rfl | hy
    · have h1 := divW_lt hk l
      have h2 := hs x (by simp)
      rw [Nat.div_lt_iff_lt_mul hk]
      have h3 : ((divW k l).2 + 1) * 4294967296 ≤ k * 4294967296 := Nat.mul_le_mul_right _ h1
      rw [Nat.mul_comm 4294967296 k]; omega
    · exact ih (fun z hz => hs z (by simp [hz])) y hy
theorem divW_spec {k : Nat} (hk : 0 < k) (l : List Nat) : wv (divW k l).1 = wv l / k ∧ (divW k l).2 = wv l % k := by
  induction l with
  | nil => simp [divW, wv]
  | cons x l ih =>
    obtain ⟨h1, h2⟩ := ih
    simp only [divW, wv]
    rw [h1, h2]
    have h3 := Nat.div_add_mod (wv l) k
    have e : x + 4294967296 * wv l = (wv l % k * 4294967296 + x) + k * (4294967296 * (wv l / k)) := by
      have h4 : 4294967296 * wv l = 4294967296 * (k * (wv l / k) + wv l % k) := by rw [h3]
      rw [h4, Nat.mul_add, Nat.mul_left_comm]; omega
    constructor
    · rw [e, Nat.add_mul_div_left _ _ hk]
    · rw [e, Nat.add_mul_mod_self_left]

theorem or_words {a x : Nat} (ha : a < 4294967296) (hx : x < 4294967296) :
    IntKind.wrap .u64 ((BitVec.ofInt IntKind.u64.bits (((a * 4294967296 : Nat) : Int)) ||| BitVec.ofInt IntKind.u64.bits (x : Int)).toNat : Nat) = ((a * 4294967296 + x : Nat) : Int) := by
  have e1 : (BitVec.ofInt 64 (((a * 4294967296 : Nat) : Int))).toNat = a * 4294967296 := by
    rw [BitVec.ofInt_natCast, BitVec.toNat_ofNat]; exact Nat.mod_eq_of_lt (by omega)
  have e2 : (BitVec.ofInt 64 (x : Int)).toNat = x := by
    rw [BitVec.ofInt_natCast, BitVec.toNat_ofNat]; exact Nat.mod_eq_of_lt (by omega)
  have e3 : (BitVec.ofInt 64 (((a * 4294967296 : Nat) : Int)) ||| BitVec.ofInt 64 (x : Int)).toNat = a * 4294967296 + x := by
    rw [BitVec.toNat_or, e1, e2]
    have := Nat.shiftLeft_add_eq_or_of_lt (i := 32) (b := x) (by omega) a
    rw [Nat.shiftLeft_eq] at this
    exact this.symm
  show IntKind.wrap .u64 (((BitVec.ofInt 64 (((a * 4294967296 : Nat) : Int)) ||| BitVec.ofInt 64 (x : Int)).toNat : Nat) : Int) = _
  rw [e3]
  have : IntKind.wrap .u64 ((a * 4294967296 + x : Nat) : Int) = ((a * 4294967296 + x : Nat) : Int) % 18446744073709551616 := rfl
  rw [this]; omega

/-- How the quotient lies while it is computed from the top. -/
def divRow (k : Nat) (ws : List Nat) (i : Nat) : List Nat := List.replicate i 0 ++ (divW k (ws.drop i)).1
theorem divRow_length {k : Nat} {ws : List Nat} {i : Nat} (hi : i ≤ ws.length) : (divRow k ws i).length = ws.length := by
  simp [divRow, divW_length]; omega
theorem divRow_step {k : Nat} {ws : List Nat} {i : Nat} (hi : i < ws.length) : (divRow k ws (i + 1)).set i (((divW k (ws.drop (i + 1))).2 * 4294967296 + ws.getD i 0) / k) = divRow k ws i := by
  have hd : ws.drop i = ws.getD i 0 :: ws.drop (i + 1) := by
    rw [List.drop_eq_getElem_cons hi, List.getD_eq_getElem?_getD, List.getElem?_eq_getElem hi]; rfl
  unfold divRow
  rw [hd, divW, List.replicate_succ', List.append_assoc, List.set_append_right _ _ (by simp)]
  simp
theorem divRow_left {k : Nat} {ws : List Nat} {i : Nat} (hi : i < ws.length) : (divW k (ws.drop i)).2 = ((divW k (ws.drop (i + 1))).2 * 4294967296 + ws.getD i 0) % k := by
  have hd : ws.drop i = ws.getD i 0 :: ws.drop (i + 1) := by
    rw [List.drop_eq_getElem_cons hi, List.getD_eq_getElem?_getD, List.getElem?_eq_getElem hi]; rfl
  rw [hd, divW]

end Go.Nat32
namespace Go.Nat32
open Go.Sx



theorem wv_append (l m : List Nat) : wv (l ++ m) = wv l + (4294967296 : Nat) ^ l.length * wv m := by
  induction l with
  | nil => simp [wv]
  | cons x l ih =>
    simp only [List.cons_append, wv, ih, List.length_cons, Nat.pow_succ]
    rw [Nat.mul_add, ← Nat.mul_assoc, Nat.mul_comm ((4294967296 : Nat) ^ l.length) (4294967296 : Nat)]; omega
theorem wv_snoc (l : List Nat) (x : Nat) : wv (l ++ [x]) = wv l + (4294967296 : Nat) ^ l.length * x := by rw [wv_append]; simp [wv]
theorem wv_replicate (n : Nat) : wv (List.replicate n 0) = 0 := by
  induction n with
  | zero => rfl
  | succ n ih => simp [List.replicate_succ, wv, ih]

theorem trimz_cases (l : List Nat) : ∃ n, l = trimz l ++ List.replicate n 0 := by
  induction hn : l.length generalizing l with
  | zero => exact ⟨0, by rw [List.eq_nil_of_length_eq_zero hn]; rfl⟩
  | succ n ih =>
    rcases List.eq_nil_or_concat l with rfl | ⟨m, x, rfl⟩
    · simp at hn
    · rw [List.concat_eq_append] at hn ⊢
      by_cases hx : x = 0
      · subst hx
        obtain ⟨k, hk⟩ := ih m (by simpa using hn)
        refine ⟨k + 1, ?_⟩
        rw [trimz_snoc_zero, List.replicate_succ', ← List.append_assoc, ← hk]
      · exact ⟨0, by rw [trimz_snoc_pos _ hx]; simp⟩
theorem wv_trimz (l : List Nat) : wv (trimz l) = wv l := by
  obtain ⟨n, hn⟩ := trimz_cases l
  conv => rhs; rw [hn]
  rw [wv_append, wv_replicate]; omega
theorem trimz_canon (l : List Nat) : canon (trimz l) := by
  induction hn : l.length generalizing l with
  | zero => rw [List.eq_nil_of_length_eq_zero hn]; simp [canon, trimz]
  | succ n ih =>
    rcases List.eq_nil_or_concat l with rfl | ⟨m, x, rfl⟩
    · simp at hn
    · rw [List.concat_eq_append] at hn ⊢
      by_cases hx : x = 0
      · subst hx; rw [trimz_snoc_zero]; exact ih m (by simpa using hn)
      · rw [trimz_snoc_pos _ hx]; simp [canon, hx]
theorem trimz_small {l : List Nat} (h : small l) : small (trimz l) := by
  obtain ⟨n, hn⟩ := trimz_cases l
  intro x hx
  exact h x (by rw [hn]; exact List.mem_append_left _ hx)

theorem wv_lt {l : List Nat} (h : small l) : wv l < (4294967296 : Nat) ^ l.length := by
  induction l with
  | nil => simp [wv]
  | cons x l ih =>
    have h1 := ih fun y hy => h y (by simp [hy])
    have h2 := h x (by simp)
    simp only [wv, List.length_cons, Nat.pow_succ]
    have h3 : (4294967296 : Nat) * (wv l + 1) ≤ (4294967296 : Nat) * (4294967296 : Nat) ^ l.length := Nat.mul_le_mul_left _ h1
    rw [Nat.mul_comm ((4294967296 : Nat) ^ l.length) (4294967296 : Nat)]
    omega
theorem wv_ge {l : List Nat} (h : canon l) (hne : l ≠ []) : (4294967296 : Nat) ^ (l.length - 1) ≤ wv l := by
  rcases List.eq_nil_or_concat l with rfl | ⟨m, x, rfl⟩
  · exact absurd rfl hne
  · rw [List.concat_eq_append] at h ⊢
    have hx : x ≠ 0 := by simpa [canon] using h
    rw [wv_snoc]
    have : (4294967296 : Nat) ^ m.length * 1 ≤ (4294967296 : Nat) ^ m.length * x := Nat.mul_le_mul_left _ (Nat.pos_of_ne_zero hx)
    simp only [List.length_append, List.length_cons, List.length_nil, Nat.add_sub_cancel, Nat.zero_add]
    omega
/-- How many words a number has. -/
theorem canon_len {l : List Nat} (h : canon l) {k : Nat} (hk : wv l < (4294967296 : Nat) ^ k) : l.length ≤ k := by
  by_cases hne : l = []
  · subst hne; simp
  · have h1 := wv_ge h hne
    have h2 : (4294967296 : Nat) ^ (l.length - 1) < (4294967296 : Nat) ^ k := Nat.lt_of_le_of_lt h1 hk
    have h3 : l.length - 1 < k := (Nat.pow_lt_pow_iff_right (by decide)).1 h2
    omega
theorem canon_inj : ∀ {a b : List Nat}, canon a → canon b → small a → small b → wv a = wv b → a = b
  | [], [], _, _, _, _, _ => rfl
  | [], y :: b, _, hb, _, _, he => by
    have := wv_ge hb (by simp)
    have h2 : 0 < (4294967296 : Nat) ^ ((y :: b).length - 1) := Nat.pow_pos (by decide)
    simp only [wv] at he this; omega
  | x :: a, [], ha, _, _, _, he => by
    have := wv_ge ha (by simp)
    have h2 : 0 < (4294967296 : Nat) ^ ((x :: a).length - 1) := Nat.pow_pos (by decide)
    simp only [wv] at he this; omega
  | x :: a, y :: b, ha, hb, sa, sb, he => by
    have h1 := sa x (by simp); have h2 := sb y (by simp)
    simp only [wv] at he
    have hxy : x = y := by omega
    have hw : wv a = wv b := by omega
    have ca : canon a := by
      cases a with
      | nil => simp [canon]
      | cons z a => simpa [canon, List.getLast?_cons_cons] using ha
    have cb : canon b := by
      cases b with
      | nil => simp [canon]
      | cons z b => simpa [canon, List.getLast?_cons_cons] using hb
    rw [hxy, canon_inj ca cb (fun z hz => sa z (by simp [hz])) (fun z hz => sb z (by simp [hz])) hw]

/-- A sum by places. -/
def S (F : Nat → Nat) : Nat → Nat
  | 0 => 0
  | n + 1 => S F n + (4294967296 : Nat) ^ n * F n
theorem S_add (F G : Nat → Nat) (n : Nat) : S (fun i => F i + G i) n = S F n + S G n := by
  induction n with
  | zero => rfl
  | succ n ih => simp only [S, ih, Nat.mul_add]; omega
theorem S_mul (F : Nat → Nat) (k n : Nat) : S (fun i => F i * k) n = S F n * k := by
  induction n with
  | zero => simp [S]
  | succ n ih => simp only [S, ih, Nat.add_mul, Nat.mul_assoc]
theorem S_congr {F G : Nat → Nat} {n : Nat} (h : ∀ i, i < n → F i = G i) : S F n = S G n := by
  induction n with
  | zero => rfl
  | succ n ih => simp only [S]; rw [ih fun i hi => h i (by omega), h n (by omega)]
theorem S_first (p n : Nat) : S (fun i => if i = 0 then p else 0) (n + 1) = p := by
  induction n with
  | zero => simp [S]
  | succ n ih => rw [S, ih]; simp
theorem wv_S (l : List Nat) (n : Nat) (h : l.length ≤ n) : wv l = S (fun i => l.getD i 0) n := by
  have key : ∀ k, k ≤ l.length → wv (l.take k) = S (fun i => l.getD i 0) k := by
    intro k
    induction k with
    | zero => intro _; rfl
    | succ k ih =>
      intro hk
      rw [take_snoc (by omega), wv_snoc, ih (by omega), List.length_take, S, Nat.min_eq_left (by omega)]
  have h2 : ∀ d, S (fun i => l.getD i 0) (l.length + d) = S (fun i => l.getD i 0) l.length := by
    intro d
    induction d with
    | zero => rfl
    | succ d ih =>
      rw [← Nat.add_assoc, S, ih]
      have : l.getD (l.length + d) 0 = 0 := by
        rw [List.getD_eq_getElem?_getD, List.getElem?_eq_none (by omega)]; rfl
      rw [this]; simp
  have h3 := key l.length (Nat.le_refl _)
  rw [List.take_length] at h3
  obtain ⟨d, rfl⟩ := Nat.exists_eq_add_of_le h
  rw [h2, h3]

theorem jn_S {step : Nat → Nat → Nat × Nat} {F : Nat → Nat} {n : Nat} (h : ∀ i, i < n → (step i (jn step i).2).1 + (4294967296 : Nat) * (step i (jn step i).2).2 = F i + (jn step i).2) :
    wv (jn step n).1 + (4294967296 : Nat) ^ n * (jn step n).2 = S F n := by
  induction n with
  | zero => simp [jn, wv, S]
  | succ n ih =>
    have h1 := ih fun i hi => h i (by omega)
    have h2 := h n (by omega)
    simp only [jn, S]
    rw [wv_snoc, jn_length, ← h1, Nat.pow_succ, Nat.mul_assoc, Nat.add_assoc, ← Nat.mul_add, h2, Nat.mul_add]; omega
theorem joinW_S {step : Nat → Nat → Nat × Nat} {F : Nat → Nat} {n : Nat} (h : ∀ i, i < n → (step i (jn step i).2).1 + (4294967296 : Nat) * (step i (jn step i).2).2 = F i + (jn step i).2) :
    wv (joinW step n) = S F n := by
  have := jn_S h
  unfold joinW
  split
  · rw [wv_snoc, jn_length]; exact this
  · rename_i h0
    have : (jn step n).2 = 0 := by omega
    rw [← jn_S h, this]; simp
theorem wv_add (wa wb : List Nat) : wv (joinW (addStep wa wb) (max wa.length wb.length)) = wv wa + wv wb := by
  rw [joinW_S (F := fun i => wa.getD i 0 + wb.getD i 0), S_add, ← wv_S wa _ (Nat.le_max_left _ _), ← wv_S wb _ (Nat.le_max_right _ _)]
  intro i _
  simp only [addStep]
  exact Nat.mod_add_div _ _
theorem wv_smallStep (wa : List Nat) (k plus : Nat) : wv (joinW (smallStep wa k plus) (wa.length + 1)) = wv wa * k + plus := by
  rw [joinW_S (F := fun i => wa.getD i 0 * k + (if i = 0 then plus else 0)), S_add, S_mul, S_first, ← wv_S wa _ (by omega)]
  intro i _
  simp only [smallStep]
  rw [Nat.mod_add_div]
  cases i with
  | zero => simp [jn]
  | succ i => simp

theorem wv_set (l : List Nat) (i x : Nat) (h : i < l.length) : wv (l.set i x) + (4294967296 : Nat) ^ i * l.getD i 0 = wv l + (4294967296 : Nat) ^ i * x := by
  induction l generalizing i with
  | nil => simp at h
  | cons y l ih =>
    cases i with
    | zero => simp [wv]; omega
    | succ i =>
      have := ih i (by simpa using h)
      simp only [List.set_cons_succ, wv, List.getD_cons_succ, Nat.pow_succ]
      have h2 : (4294967296 : Nat) * (wv (l.set i x) + (4294967296 : Nat) ^ i * l.getD i 0) = (4294967296 : Nat) * (wv l + (4294967296 : Nat) ^ i * x) := by rw [this]
      rw [Nat.mul_add, Nat.mul_add, ← Nat.mul_assoc, ← Nat.mul_assoc, Nat.mul_comm (4294967296 : Nat) ((4294967296 : Nat) ^ i)] at h2
      omega

theorem mulIn_S {x : Nat} {wb : List Nat} {i : Nat} {o : List Nat} : ∀ k, i + k ≤ o.length → wv (mulIn x wb i o k).1 + (4294967296 : Nat) ^ (i + k) * (mulIn x wb i o k).2 = wv o + (4294967296 : Nat) ^ i * (x * S (fun j => wb.getD j 0) k)
  | 0, _ => by simp [mulIn, S]
  | k + 1, h => by
    have ih := mulIn_S (x := x) (wb := wb) (i := i) (o := o) k (by omega)
    have hs := wv_set (mulIn x wb i o k).1 (i + k) ((x * wb.getD k 0 + (mulIn x wb i o k).1.getD (i + k) 0 + (mulIn x wb i o k).2) % 4294967296) (by rw [mulIn_length]; omega)
    have hd := Nat.mod_add_div (x * wb.getD k 0 + (mulIn x wb i o k).1.getD (i + k) 0 + (mulIn x wb i o k).2) 4294967296
    simp only [mulIn, S]
    generalize (mulIn x wb i o k).1 = oo at *
    generalize (mulIn x wb i o k).2 = c at *
    generalize hT : x * wb.getD k 0 + oo.getD (i + k) 0 + c = T at *
    have e1 : (4294967296 : Nat) ^ (i + (k + 1)) * (T / 4294967296) = (4294967296 : Nat) ^ (i + k) * (4294967296 * (T / 4294967296)) := by
      rw [← Nat.add_assoc, Nat.pow_succ, Nat.mul_assoc]
    rw [e1]
    have e2 : (4294967296 : Nat) ^ (i + k) * T = (4294967296 : Nat) ^ (i + k) * (T % 4294967296) + (4294967296 : Nat) ^ (i + k) * (4294967296 * (T / 4294967296)) := by rw [← Nat.mul_add, hd]
    have e3 : (4294967296 : Nat) ^ (i + k) * T = (4294967296 : Nat) ^ (i + k) * (x * wb.getD k 0) + (4294967296 : Nat) ^ (i + k) * oo.getD (i + k) 0 + (4294967296 : Nat) ^ (i + k) * c := by rw [← hT, Nat.mul_add, Nat.mul_add]
    have e4 : (4294967296 : Nat) ^ i * (x * (S (fun j => wb.getD j 0) k + (4294967296 : Nat) ^ k * wb.getD k 0)) = (4294967296 : Nat) ^ i * (x * S (fun j => wb.getD j 0) k) + (4294967296 : Nat) ^ (i + k) * (x * wb.getD k 0) := by
      rw [Nat.mul_add, Nat.mul_add, Nat.pow_add, Nat.mul_left_comm x, Nat.mul_assoc]
    rw [e4]
    omega
/-- What the words of the product have not been reached by. -/
theorem mulOut_zero {wa wb : List Nat} : ∀ i, i ≤ wa.length → ∀ j, i + wb.length ≤ j → (mulOut wa wb i).getD j 0 = 0
  | 0, _, j, _ => by
    rw [mulOut, List.getD_eq_getElem?_getD, List.getElem?_replicate]; split <;> rfl
  | i + 1, hi, j, hj => by
    have hin : ∀ k, k ≤ wb.length → ∀ m, i + k ≤ m → (mulIn (wa.getD i 0) wb i (mulOut wa wb i) k).1.getD m 0 = (mulOut wa wb i).getD m 0 := by
      intro k
      induction k with
      | zero => intro _ m _; rfl
      | succ k ih =>
        intro hk m hm
        simp only [mulIn]
        rw [List.getD_eq_getElem?_getD, List.getElem?_set_ne (by omega), ← List.getD_eq_getElem?_getD]
        exact ih (by omega) m (by omega)
    rw [mulOut, List.getD_eq_getElem?_getD, List.getElem?_set_ne (by omega), ← List.getD_eq_getElem?_getD, hin wb.length (Nat.le_refl _) j (by omega)]
    exact mulOut_zero i (by omega) j (by omega)
theorem mulOut_S (wa wb : List Nat) : ∀ i, i ≤ wa.length → wv (mulOut wa wb i) = S (fun j => wa.getD j 0) i * wv wb
  | 0, _ => by simp [mulOut, wv_replicate, S]
  | i + 1, hi => by
    have ih := mulOut_S wa wb i (by omega)
    have hm := mulIn_S (x := wa.getD i 0) (wb := wb) (i := i) (o := mulOut wa wb i) wb.length (by rw [mulOut_length]; omega)
    have hz : (mulIn (wa.getD i 0) wb i (mulOut wa wb i) wb.length).1.getD (i + wb.length) 0 = 0 := by
      have hin : ∀ k, k ≤ wb.length → (mulIn (wa.getD i 0) wb i (mulOut wa wb i) k).1.getD (i + wb.length) 0 = (mulOut wa wb i).getD (i + wb.length) 0 := by
        intro k
        induction k with
        | zero => intro _; rfl
        | succ k ih =>
          intro hk
          simp only [mulIn]
          rw [List.getD_eq_getElem?_getD, List.getElem?_set_ne (by omega), ← List.getD_eq_getElem?_getD]
          exact ih (by omega)
      rw [hin _ (Nat.le_refl _)]
      exact mulOut_zero i (by omega) _ (Nat.le_refl _)
    have hs := wv_set (mulIn (wa.getD i 0) wb i (mulOut wa wb i) wb.length).1 (i + wb.length) (mulIn (wa.getD i 0) wb i (mulOut wa wb i) wb.length).2 (by rw [mulIn_length, mulOut_length]; omega)
    rw [hz] at hs
    rw [← wv_S wb _ (Nat.le_refl _)] at hm
    simp only [mulOut, S, Nat.add_mul]
    rw [← ih, Nat.mul_assoc]
    omega
theorem wv_mul (wa wb : List Nat) : wv (mulOut wa wb wa.length) = wv wa * wv wb := by
  rw [mulOut_S wa wb _ (Nat.le_refl _), ← wv_S wa _ (Nat.le_refl _)]

/-! ### The number that a value stands for -/
def NatV (M : RO) (v : Value) (x : Nat) : Prop := ∃ a n c ws, v = .agg #[.slice a n c] ∧ Row32 M a n c ws ∧ canon ws ∧ wv ws = x

theorem NatV.mono {M M' : RO} {v : Value} {x : Nat} (h : NatV M v x) (hM : M.le M') : NatV M' v x :=
  let ⟨a, n, c, ws, h1, h2, h3, h4⟩ := h; ⟨a, n, c, ws, h1, h2.mono hM, h3, h4⟩
theorem NatV.zero (M : RO) : NatV M (.agg #[.slice none 0 0]) 0 := ⟨none, 0, 0, [], rfl, ⟨rfl, Nat.le_refl _, by decide, (fun x hx => by cases hx), .inl rfl⟩, by simp [canon], rfl⟩

/-- The number has at most k words. -/
def lim (k x : Nat) : Prop := x < (4294967296 : Nat) ^ k
theorem lim.mono {k k' x : Nat} (h : lim k x) (hk : k ≤ k') : lim k' x := Nat.lt_of_lt_of_le h (Nat.pow_le_pow_right (by decide) hk)
theorem lim.le {k x y : Nat} (h : lim k x) (hy : y ≤ x) : lim k y := Nat.lt_of_le_of_lt hy h
theorem lim.add {k x y : Nat} (hx : lim k x) (hy : lim k y) : lim (k + 1) (x + y) := by
  unfold lim at *; rw [Nat.pow_succ]; omega
theorem lim.mul {k l x y : Nat} (hx : lim k x) (hy : lim l y) : lim (k + l) (x * y) := by
  unfold lim at *; rw [Nat.pow_add]; exact Nat.mul_lt_mul'' hx hy
end Go.Nat32
namespace Go.PolyL
open Go.Sx Go.Nat32

def sumL {α : Type} (l : List α) (F : α → Nat) : Nat := (l.map F).sum
section
variable {α β : Type}
theorem sumL_nil (F : α → Nat) : sumL [] F = 0 := rfl
theorem sumL_cons (x : α) (l : List α) (F : α → Nat) : sumL (x :: l) F = F x + sumL l F := by simp [sumL]
theorem sumL_append (l m : List α) (F : α → Nat) : sumL (l ++ m) F = sumL l F + sumL m F := by simp [sumL]
theorem sumL_snoc (l : List α) (x : α) (F : α → Nat) : sumL (l ++ [x]) F = sumL l F + F x := by rw [sumL_append]; simp [sumL]
theorem sumL_congr {l : List α} {F G : α → Nat} (h : ∀ x ∈ l, F x = G x) : sumL l F = sumL l G := by
  unfold sumL; rw [List.map_congr_left h]
theorem sumL_zero {l : List α} {F : α → Nat} (h : ∀ x ∈ l, F x = 0) : sumL l F = 0 := by
  induction l with
  | nil => rfl
  | cons x l ih => rw [sumL_cons, h x (by simp), ih fun y hy => h y (by simp [hy])]
theorem sumL_add (l : List α) (F G : α → Nat) : sumL l (fun x => F x + G x) = sumL l F + sumL l G := by
  induction l with
  | nil => rfl
  | cons x l ih => simp only [sumL_cons, ih]; omega
theorem sumL_mul (l : List α) (c : Nat) (F : α → Nat) : sumL l (fun x => c * F x) = c * sumL l F := by
  induction l with
  | nil => rfl
  | cons x l ih => simp only [sumL_cons, ih, Nat.mul_add]
theorem sumL_mulr (l : List α) (c : Nat) (F : α → Nat) : sumL l (fun x => F x * c) = sumL l F * c := by
  induction l with
  | nil => simp [sumL]
  | cons x l ih => simp only [sumL_cons, ih, Nat.add_mul]
theorem sumL_comm (l : List α) (m : List β) (F : α → β → Nat) : sumL l (fun x => sumL m (F x)) = sumL m fun y => sumL l fun x => F x y := by
  induction l with
  | nil => simp only [sumL_nil]; rw [sumL_zero]; intro _ _; rfl
  | cons x l ih => simp only [sumL_cons, ih, sumL_add]
theorem sumL_perm {l m : List α} (h : l.Perm m) (F : α → Nat) : sumL l F = sumL m F := (h.map F).sum_nat
theorem sumL_le {l : List α} {F : α → Nat} {c : Nat} (h : ∀ x ∈ l, F x ≤ c) : sumL l F ≤ l.length * c := by
  induction l with
  | nil => simp [sumL]
  | cons x l ih =>
    rw [sumL_cons, List.length_cons, Nat.add_mul, Nat.one_mul]
    have := h x (by simp); have := ih fun y hy => h y (by simp [hy])
    omega
theorem sumL_ite {l : List α} [DecidableEq α] (hn : l.Nodup) (k : α) (X : Nat) : sumL l (fun x => if x = k then X else 0) = if k ∈ l then X else 0 := by
  induction l with
  | nil => rfl
  | cons x l ih =>
    rw [List.nodup_cons] at hn
    rw [sumL_cons, ih hn.2]
    by_cases h : x = k
    · subst h; simp [hn.1]
    · have : k ≠ x := fun e => h e.symm
      simp [h, this]
theorem sumL_one (l : List α) : sumL l (fun _ => 1) = l.length := by
  induction l with
  | nil => rfl
  | cons x l ih => rw [sumL_cons, ih, List.length_cons]; omega
theorem sumL_map {γ : Type} (l : List γ) (g : γ → α) (F : α → Nat) : sumL (l.map g) F = sumL l fun x => F (g x) := by simp [sumL, List.map_map, Function.comp_def]
end

def box : List (Nat × Nat) := (List.range 2049).flatMap fun a => (List.range 2049).map fun b => (a, b)
theorem mem_box {k : Nat × Nat} : k ∈ box ↔ k.1 ≤ 2048 ∧ k.2 ≤ 2048 := by
  obtain ⟨a, b⟩ := k
  simp only [box, List.mem_flatMap, List.mem_map, List.mem_range, Prod.mk.injEq]
  constructor
  · rintro ⟨x, hx, y, hy, rfl, rfl⟩; omega
  · rintro ⟨h1, h2⟩; exact ⟨a, by omega, b, by omega, rfl, rfl⟩
theorem nodup_flat {m : Nat} : ∀ l : List Nat, l.Nodup → (l.flatMap fun a => (List.range m).map fun b => (a, b)).Nodup
  | [], _ => List.nodup_nil
  | x :: l, h => by
    rw [List.nodup_cons] at h
    rw [List.flatMap_cons, List.nodup_append]
    refine ⟨?_, nodup_flat l h.2, ?_⟩
    · exact (List.pairwise_map.2 (List.nodup_range.imp fun hne e => hne (by cases e; rfl)))
    · rintro ⟨a, b⟩ h1 ⟨c, d⟩ h2 he
      simp only [List.mem_map, List.mem_flatMap, Prod.mk.injEq] at h1 h2
      obtain ⟨_, _, rfl, rfl⟩ := h1
      obtain ⟨y, hy, _, _, rfl, rfl⟩ := h2
      cases he
      exact h.1 hy
theorem nodup_box : box.Nodup := nodup_flat _ List.nodup_range
theorem length_flat (m : Nat) (l : List Nat) : (l.flatMap fun a => (List.range m).map fun b => (a, b)).length = l.length * m := by
  induction l with
  | nil => simp
  | cons x l ih => simp only [List.flatMap_cons, List.length_append, ih, List.length_map, List.length_range, List.length_cons, Nat.add_mul]; omega
theorem length_box : box.length = 2049 * 2049 := by rw [box, length_flat, List.length_range]

/-- The coefficients of a product, beyond the greatest exponent none. -/
def conv (f g : Nat → Nat → Nat) : Nat → Nat → Nat := fun a b =>
  if a ≤ 2048 ∧ b ≤ 2048 then sumL box fun s => sumL box fun t => if s.1 + t.1 = a ∧ s.2 + t.2 = b then f s.1 s.2 * g t.1 t.2 else 0 else 0

/-- A sum over keys of which each that counts is met once. -/
theorem sum_keys {α : Type} {l : List α} {key : α → Nat × Nat} (hn : (l.map key).Nodup) (hb : ∀ x ∈ l, key x ∈ box) {F : Nat × Nat → Nat} (hF : ∀ k, F k ≠ 0 → ∃ x ∈ l, key x = k) : sumL l (fun x => F (key x)) = sumL box F := by
  have h1 : sumL box F = sumL box fun k => sumL l fun x => if k = key x then F k else 0 := by
    refine sumL_congr fun k _ => ?_
    by_cases h0 : F k = 0
    · rw [h0]; symm; refine sumL_zero fun x _ => ?_; split <;> rfl
    · obtain ⟨x, hx, rfl⟩ := hF k h0
      have := sumL_ite hn (key x) (F (key x))
      rw [sumL_map, if_pos (List.mem_map_of_mem hx)] at this
      refine this.symm.trans (sumL_congr fun y _ => ?_)
      by_cases h : key x = key y
      · rw [if_pos h, if_pos h.symm]
      · rw [if_neg h, if_neg (fun e => h e.symm)]
  rw [h1, sumL_comm]
  refine sumL_congr fun x hx => ?_
  have e : sumL box (fun k => if k = key x then F k else 0) = sumL box fun k => if k = key x then F (key x) else 0 := by
    refine sumL_congr fun k _ => ?_
    by_cases h : k = key x
    · rw [h]
    · rw [if_neg h, if_neg h]
  rw [e, sumL_ite nodup_box, if_pos (hb x hx)]
end Go.PolyL
namespace Go.Dec
open Go.Sx Go.Nat32 Go.Lib

/-- The number whose digits are given, least first. -/
def dv : List Nat → Nat
  | [] => 0
  | d :: l => d + 10 * dv l

def isD (l : List Nat) : Prop := ∀ x ∈ l, x < 10

/-- The digits of a number, least first, none for 0. -/
def dgs (x : Nat) : List Nat := if h : x = 0 then [] else x % 10 :: dgs (x / 10)
termination_by x
decreasing_by omega

theorem dgs_zero : dgs 0 = [] := by rw [dgs]; simp
theorem dgs_pos {x : Nat} (h : x ≠ 0) : dgs x = x % 10 :: dgs (x / 10) := by rw [dgs]; simp [h]
theorem dv_dgs (x : Nat) : dv (dgs x) = x := by
  induction x using Nat.strongRecOn with
  | _ x ih =>
    by_cases h : x = 0
    · subst h; rw [dgs_zero]; rfl
    · rw [dgs_pos h]; simp only [dv]; rw [ih (x / 10) (by omega)]; omega
theorem isD_dgs (x : Nat) : isD (dgs x) := by
  induction x using Nat.strongRecOn with
  | _ x ih =>
    by_cases h : x = 0
    · subst h; rw [dgs_zero]; intro y hy; cases hy
    · rw [dgs_pos h]; intro y hy
      rcases List.mem_cons.1 hy with rfl | hy
      · omega
      · exact ih (x / 10) (by omega) y hy
theorem dv_append (l m : List Nat) : dv (l ++ m) = dv l + 10 ^ l.length * dv m := by
  induction l with
  | nil => simp [dv]
  | cons x l ih =>
    simp only [List.cons_append, dv, ih, List.length_cons, Nat.pow_succ]
    rw [Nat.mul_add, ← Nat.mul_assoc, Nat.mul_comm (10 ^ l.length) 10]; omega
theorem dv_snoc (l : List Nat) (x : Nat) : dv (l ++ [x]) = dv l + 10 ^ l.length * x := by rw [dv_append]; simp [dv]
theorem dv_replicate (n : Nat) : dv (List.replicate n 0) = 0 := by
  induction n with
  | zero => rfl
  | succ n ih => simp [List.replicate_succ, dv, ih]
theorem dv_trimz (l : List Nat) : dv (trimz l) = dv l := by
  obtain ⟨n, hn⟩ := trimz_cases l
  conv => rhs; rw [hn]
  rw [dv_append, dv_replicate]; omega
theorem isD_trimz {l : List Nat} (h : isD l) : isD (trimz l) := by
  obtain ⟨n, hn⟩ := trimz_cases l
  intro x hx
  exact h x (by rw [hn]; exact List.mem_append_left _ hx)
theorem dv_lt {l : List Nat} (h : isD l) : dv l < 10 ^ l.length := by
  induction l with
  | nil => simp [dv]
  | cons x l ih =>
    have h1 := ih fun y hy => h y (by simp [hy])
    have h2 := h x (by simp)
    simp only [dv, List.length_cons, Nat.pow_succ]; omega
theorem canon_tail {x : Nat} {l : List Nat} (h : canon (x :: l)) : canon l := by
  cases l with
  | nil => simp [canon]
  | cons y l => simpa [canon] using h
theorem dv_pos {l : List Nat} (h : canon l) (hne : l ≠ []) : dv l ≠ 0 := by
  induction l with
  | nil => exact absurd rfl hne
  | cons x l ih =>
    cases l with
    | nil => simp only [dv]; intro h0; simp [canon] at h; omega
    | cons y l =>
      have := ih (canon_tail h) (by simp)
      simp only [dv] at this ⊢; omega
theorem dgs_of {l : List Nat} (hd : isD l) (hc : canon l) : dgs (dv l) = l := by
  induction l with
  | nil => simp only [dv]; exact dgs_zero
  | cons x l ih =>
    have hx := hd x (by simp)
    have h0 := dv_pos hc (by simp)
    rw [dgs_pos h0]
    have e1 : dv (x :: l) % 10 = x := by simp only [dv]; omega
    have e2 : dv (x :: l) / 10 = dv l := by simp only [dv]; omega
    rw [e1, e2, ih (fun y hy => hd y (by simp [hy])) (canon_tail hc)]
theorem trimz_dgs {l : List Nat} (hd : isD l) : trimz l = dgs (dv l) := by
  rw [← dv_trimz, dgs_of (isD_trimz hd) (trimz_canon l)]
theorem isD_getD {l : List Nat} (h : isD l) (i : Nat) : l.getD i 0 < 10 := by
  rw [List.getD_eq_getElem?_getD]
  cases hl : l[i]? with
  | none => simp
  | some x => exact h x (List.mem_of_getElem? hl)
theorem dv_take_succ (l : List Nat) (i : Nat) : dv (l.take (i + 1)) = dv (l.take i) + 10 ^ i * l.getD i 0 := by
  by_cases hi : i < l.length
  · rw [take_snoc hi, dv_snoc, List.length_take, Nat.min_eq_left (by omega)]
  · rw [List.take_of_length_le (by omega), List.take_of_length_le (by omega), List.getD_eq_getElem?_getD, List.getElem?_eq_none (by omega)]; simp
theorem dv_set (l : List Nat) (i x : Nat) (h : i < l.length) : dv (l.set i x) + 10 ^ i * l.getD i 0 = dv l + 10 ^ i * x := by
  induction l generalizing i with
  | nil => simp at h
  | cons y l ih =>
    cases i with
    | zero => simp [dv]; omega
    | succ i =>
      have := ih i (by simpa using h)
      simp only [List.set_cons_succ, dv, List.getD_cons_succ, Nat.pow_succ]
      rw [Nat.mul_comm (10 ^ i) 10, Nat.mul_assoc, Nat.mul_assoc]; omega
theorem isD_set {l : List Nat} (h : isD l) (i : Nat) {x : Nat} (hx : x < 10) : isD (l.set i x) := by
  intro y hy
  rcases List.mem_or_eq_of_mem_set hy with h' | rfl
  · exact h y h'
  · exact hx
theorem dgs_len {x k : Nat} (h : x < 10 ^ k) : (dgs x).length ≤ k := by
  induction k generalizing x with
  | zero => have : x = 0 := by simpa using h
            subst this; rw [dgs_zero]; simp
  | succ k ih =>
    by_cases h0 : x = 0
    · subst h0; rw [dgs_zero]; simp
    · rw [dgs_pos h0, List.length_cons]
      have := ih (x := x / 10) (by rw [Nat.pow_succ] at h; omega)
      omega
theorem dgs_mono {x y : Nat} (h : x ≤ y) : (dgs x).length ≤ (dgs y).length := by
  induction y using Nat.strongRecOn generalizing x with
  | _ y ih =>
    by_cases h0 : x = 0
    · subst h0; rw [dgs_zero]; simp
    · rw [dgs_pos h0, dgs_pos (x := y) (by omega), List.length_cons, List.length_cons]
      have := ih (y / 10) (by omega) (x := x / 10) (by omega)
      omega
theorem dgs_ne {x : Nat} (h : x ≠ 0) : dgs x ≠ [] := by rw [dgs_pos h]; simp

theorem mul_step {V V' P W T D Q c ok r ai bk n : Nat} (h : V + P * c = W + T * ai * D) (hset : V' + P * ok = V + P * r) (hn : n = ok + ai * bk + c) (hr : r = n % 10) (hP : P = T * Q) : V' + P * 10 * (n / 10) = W + T * ai * (D + Q * bk) := by
  have e1 : P * n = P * ok + P * (ai * bk) + P * c := by rw [hn, Nat.mul_add, Nat.mul_add]
  have e2 : P * n = P * r + P * 10 * (n / 10) := by
    have h1 : n = r + 10 * (n / 10) := by omega
    conv => lhs; rw [h1, Nat.mul_add, ← Nat.mul_assoc]
  have e3 : T * ai * (D + Q * bk) = T * ai * D + P * (ai * bk) := by
    rw [Nat.mul_add, hP]
    have : T * ai * (Q * bk) = T * Q * (ai * bk) := by ac_rfl
    rw [this]
  omega

/-! Numerals. -/
theorem decDigits_small {u : Nat} (h : u < 10) : decDigits u = [UInt8.ofNat (48 + u)] := by rw [decDigits, dif_pos h]
theorem decDigits_big {u : Nat} (h : ¬ u < 10) : decDigits u = decDigits (u / 10) ++ [UInt8.ofNat (48 + u % 10)] := by rw [decDigits, dif_neg h]
def chr (d : Nat) : UInt8 := UInt8.ofNat (48 + d)
theorem decDigits_dgs {x : Nat} (h : x ≠ 0) : decDigits x = (dgs x).reverse.map chr := by
  induction x using Nat.strongRecOn with
  | _ x ih =>
    rw [dgs_pos h, List.reverse_cons, List.map_append]
    by_cases hx : x < 10
    · rw [decDigits_small hx, show x / 10 = 0 by omega, dgs_zero, Nat.mod_eq_of_lt hx]; rfl
    · rw [decDigits_big hx, ih (x / 10) (by omega) (by omega)]; rfl

/-- A number of up to k digits, with zeros ahead. -/
def padk : Nat → Nat → List UInt8
  | 0, _ => []
  | k + 1, r => padk k (r / 10) ++ [chr (r % 10)]
theorem decDigits_pad {q : Nat} (hq : q ≠ 0) : ∀ (k r : Nat), r < 10 ^ k → decDigits (q * 10 ^ k + r) = decDigits q ++ padk k r
  | 0, r, hr => by
    have : r = 0 := by simpa using hr
    subst this; simp [padk]
  | k + 1, r, hr => by
    rw [Nat.pow_succ] at hr
    have h1 : q * 10 ^ (k + 1) = 10 * (q * 10 ^ k) := by rw [Nat.pow_succ, ← Nat.mul_assoc, Nat.mul_comm]
    have hp : 1 ≤ q * 10 ^ k := Nat.mul_pos (Nat.pos_of_ne_zero hq) (Nat.pow_pos (by decide))
    rw [h1, decDigits_big (by omega), show (10 * (q * 10 ^ k) + r) / 10 = q * 10 ^ k + r / 10 by omega, decDigits_pad hq k (r / 10) (by omega), show (10 * (q * 10 ^ k) + r) % 10 = r % 10 by omega]
    simp [padk, chr]
theorem padk_zero (k : Nat) : padk k 0 = List.replicate k 48 := by
  induction k with
  | zero => rfl
  | succ k ih =>
    rw [padk, Nat.zero_div, ih, List.replicate_succ']; rfl
theorem decDigits_length_le {k r : Nat} (hk : 0 < k) (h : r < 10 ^ k) : (decDigits r).length ≤ k := by
  induction k generalizing r with
  | zero => omega
  | succ k ih =>
    by_cases hr : r < 10
    · rw [decDigits_small hr]; simp
    · rw [decDigits_big hr, List.length_append]
      rw [Nat.pow_succ] at h
      have hk0 : 0 < k := by
        rcases Nat.eq_zero_or_pos k with rfl | h0
        · simp at h; omega
        · exact h0
      have := ih (r := r / 10) hk0 (by omega)
      simp; omega
theorem decDigits_ne (r : Nat) : decDigits r ≠ [] := by
  by_cases hr : r < 10
  · rw [decDigits_small hr]; simp
  · rw [decDigits_big hr]; simp
theorem padk_eq : ∀ (k r : Nat), 0 < k → r < 10 ^ k → padk k r = List.replicate (k - (decDigits r).length) 48 ++ decDigits r
  | 0, _, h, _ => by omega
  | k + 1, r, _, h => by
    rw [padk]
    by_cases hr : r < 10
    · rw [decDigits_small hr, show r / 10 = 0 by omega, padk_zero, Nat.mod_eq_of_lt hr]; simp [chr]
    · have hk0 : 0 < k := by
        rcases Nat.eq_zero_or_pos k with rfl | h0
        · simp at h; omega
        · exact h0
      rw [Nat.pow_succ] at h
      rw [padk_eq k (r / 10) hk0 (by omega), decDigits_big hr, List.length_append]
      have hl := decDigits_length_le (r := r / 10) hk0 (by omega)
      rw [show k + 1 - ((decDigits (r / 10)).length + [UInt8.ofNat (48 + r % 10)].length) = k - (decDigits (r / 10)).length by simp]
      simp [chr]
theorem repeatL_replicate (c : UInt8) (n : Nat) : repeatL [c] n = List.replicate n c := by
  induction n with
  | zero => rfl
  | succ n ih => simp [repeatL, ih, List.replicate_succ]
end Go.Dec
namespace Go.Dec
open Go.Lib
/-- A power of a variable, if there is one. -/
def pw (c : UInt8) (n : Nat) : List UInt8 := if n = 0 then [] else [32, c, 94] ++ decDigits n
def termL (x a b : Nat) : List UInt8 := decDigits x ++ (pw 120 a ++ pw 121 b)
def plusL : List UInt8 := [32, 43, 32]
def termsL (f : Nat → Nat → Nat) (ks : List (Nat × Nat)) : List UInt8 := join (ks.map fun k => termL (f k.1 k.2) k.1 k.2) plusL
/-- The text of the polynomial f with these powers. -/
def textK (f : Nat → Nat → Nat) (ks : List (Nat × Nat)) : List UInt8 := if ks = [] then [48] else termsL f ks

theorem joinTail_append (sep : List UInt8) (r s : List (List UInt8)) : joinTail sep (r ++ s) = joinTail sep r ++ joinTail sep s := by simp [joinTail]
theorem join_snoc {l : List (List UInt8)} {x sep : List UInt8} (h : l ≠ []) : join (l ++ [x]) sep = join l sep ++ sep ++ x := by
  obtain ⟨y, r, rfl⟩ := List.exists_cons_of_ne_nil h
  rw [List.cons_append, join_cons, join_cons, joinTail_append]
  simp [joinTail]
theorem decDigits_len {x k : Nat} (h : x < 10 ^ k) : (decDigits x).length ≤ k + 1 :=
  decDigits_length_le (Nat.succ_pos k) (Nat.lt_of_lt_of_le h (Nat.pow_le_pow_right (by decide) (Nat.le_succ k)))
theorem pw_len {c : UInt8} {n k : Nat} (h : n < 10 ^ k) : (pw c n).length ≤ k + 4 := by
  unfold pw
  split
  · simp
  · have := decDigits_len h
    simp; omega
theorem termL_len {x a b k : Nat} (h : x < 10 ^ k) (ha : a < 10 ^ 4) (hb : b < 10 ^ 4) : (termL x a b).length ≤ k + 17 := by
  unfold termL
  have h1 := decDigits_len h
  have h2 := pw_len (c := 120) ha
  have h3 := pw_len (c := 121) hb
  simp only [List.length_append]; omega
theorem joinTail_len {sep : List UInt8} {r : List (List UInt8)} {m : Nat} (h : ∀ x ∈ r, x.length ≤ m) : (joinTail sep r).length ≤ r.length * (m + sep.length) := by
  induction r with
  | nil => simp [joinTail]
  | cons x r ih =>
    have h1 := ih fun y hy => h y (by simp [hy])
    have h2 := h x (by simp)
    have : joinTail sep (x :: r) = sep ++ x ++ joinTail sep r := by simp [joinTail]
    rw [this, List.length_append, List.length_append, List.length_cons, Nat.add_mul]; omega
theorem join_len {l : List (List UInt8)} {sep : List UInt8} {m : Nat} (h : ∀ x ∈ l, x.length ≤ m) : (join l sep).length ≤ l.length * (m + sep.length) := by
  cases l with
  | nil => simp [join_nil]
  | cons x r =>
    rw [join_cons, List.length_append, List.length_cons, Nat.add_mul]
    have h1 := joinTail_len (sep := sep) fun y (hy : y ∈ r) => h y (by simp [hy])
    have h2 := h x (by simp)
    omega
end Go.Dec
namespace Go.Dec
open Go.Lib

theorem join_two (x : List UInt8) {r : List (List UInt8)} (hr : r ≠ []) (sep : List UInt8) : join (x :: r) sep = x ++ sep ++ join r sep := by
  obtain ⟨y, r, rfl⟩ := List.exists_cons_of_ne_nil hr
  rw [join_cons, join_cons]; simp [joinTail]
theorem splitK_ne (sep : List UInt8) (k : Nat) (s : List UInt8) : splitK sep 0 k s ≠ [] := by
  cases k with
  | zero => simp [splitK]
  | succ k => unfold splitK; split <;> simp
theorem occ_eq {s sub : List UInt8} {i : Nat} (h : occAt s sub i = true) : s = s.take i ++ sub ++ s.drop (i + sub.length) := by
  unfold occAt at h
  obtain ⟨t, ht⟩ := List.isPrefixOf_iff_prefix.1 h
  have h2 : s.drop (i + sub.length) = t := by
    rw [← List.drop_drop, ← ht, List.drop_left]
  rw [h2, List.append_assoc, ht, List.take_append_drop]
theorem join_splitK (sep : List UInt8) : ∀ (k : Nat) (s : List UInt8), join (splitK sep 0 k s) sep = s
  | 0, s => by rw [splitK, join_one]
  | k + 1, s => by
    unfold splitK
    split
    · rw [join_one]
    · rename_i h
      rcases index_spec s sep with ⟨h1, _⟩ | ⟨i, h1, _, h3, _⟩
      · rw [h1] at h; exact absurd rfl h
      · rw [h1, join_two _ (splitK_ne _ _ _), join_splitK sep k, Int.toNat_natCast, Nat.add_zero]
        exact (occ_eq h3).symm
theorem join_split (s sep : List UInt8) : join (split s sep) sep = s := join_splitK sep _ s

theorem no_occ {u v p r : List UInt8} {c : UInt8} (hu : c ∉ u) (hp : c ∉ p) (j : Nat) (hj : j < p.length) : occAt (p ++ (u ++ c :: v) ++ r) (u ++ c :: v) j = false := by
  rw [Bool.eq_false_iff]
  intro h
  have he := occ_eq h
  have h1 : (p ++ (u ++ c :: v) ++ r)[j + u.length]? = some c := by
    rw [he, List.append_assoc, List.getElem?_append_right (by rw [List.length_take]; omega), List.length_take]
    have hl : j ≤ (p ++ (u ++ c :: v) ++ r).length := by simp only [List.length_append]; omega
    rw [Nat.min_eq_left hl, Nat.add_sub_cancel_left, List.append_assoc, List.getElem?_append_right (Nat.le_refl _), Nat.sub_self]; rfl
  rw [List.append_assoc, List.getElem?_append] at h1
  split at h1
  · exact hp (List.mem_of_getElem? h1)
  · rw [List.append_assoc, List.getElem?_append_left (by omega)] at h1
    exact hu (List.mem_of_getElem? h1)
theorem index_no {u v p : List UInt8} {c : UInt8} (hp : c ∉ p) : index p (u ++ c :: v) = -1 := by
  refine index_none fun j _ => ?_
  rw [Bool.eq_false_iff]
  intro h
  refine hp ?_
  rw [occ_eq h]; simp
theorem split_join {u v : List UInt8} {c : UInt8} (hu : c ∉ u) : ∀ (ps : List (List UInt8)), ps ≠ [] → (∀ p ∈ ps, c ∉ p) → split (join ps (u ++ c :: v)) (u ++ c :: v) = ps
  | [], h, _ => absurd rfl h
  | [p], _, hp => by
    have h1 := index_no (u := u) (v := v) (hp p (by simp))
    rw [join_one, split, count_miss h1, splitK]
  | p :: q :: r, _, hp => by
    have hpp := hp p (by simp)
    have ih := split_join hu (v := v) (q :: r) (by simp) fun x hx => hp x (by simp at hx ⊢; exact .inr hx)
    have hs := join_two p (r := q :: r) (by simp) (u ++ c :: v)
    have hi : index (join (p :: q :: r) (u ++ c :: v)) (u ++ c :: v) = (p.length : Int) := by
      refine index_first (by rw [hs]; simp only [List.length_append]; omega) ?_ fun j hj => by rw [hs]; exact no_occ hu hpp j hj
      unfold occAt
      rw [hs, List.append_assoc, List.drop_left]
      exact List.isPrefixOf_iff_prefix.2 (List.prefix_append _ _)
    have hd : (join (p :: q :: r) (u ++ c :: v)).drop (p.length + (u ++ c :: v).length) = join (q :: r) (u ++ c :: v) := by
      rw [hs, ← List.length_append, List.drop_left]
    rw [split, count_hit (by simp) hi, hd, Nat.add_comm 1, splitK, hi]
    have h0 : ((p.length : Int) == -1) = false := by rw [beq_eq_false_iff_ne]; omega
    rw [h0, Int.toNat_natCast, hd]
    simp only [Bool.false_eq_true, if_false, Nat.add_zero]
    have ht : (join (p :: q :: r) (u ++ c :: v)).take p.length = p := by rw [hs, List.append_assoc, List.take_left]
    rw [ht]
    congr 1

/-! Numerals that are read back. -/
def isDig (c : UInt8) : Bool := decide (48 ≤ c.toNat) && decide (c.toNat ≤ 57)
def valL (s : List UInt8) : Nat := s.foldl (fun n c => n * 10 + (c.toNat - 48)) 0
theorem valL_snoc (s : List UInt8) (c : UInt8) : valL (s ++ [c]) = valL s * 10 + (c.toNat - 48) := by simp [valL]
/-- A positive number without zeros ahead. -/
def isNum (s : List UInt8) : Bool := !s.isEmpty && (s.head? != some 48) && s.all isDig

theorem chr_dig {d : Nat} (h : d < 10) : isDig (chr d) = true ∧ (chr d).toNat = 48 + d := by
  have : (chr d).toNat = 48 + d := by
    unfold chr
    rw [UInt8.toNat_ofNat_of_lt' (by show 48 + d < 256; omega)]
  exact ⟨by unfold isDig; rw [this]; simp; omega, this⟩
theorem chr_of_dig {c : UInt8} (h : isDig c = true) : chr (c.toNat - 48) = c := by
  unfold isDig at h
  simp only [Bool.and_eq_true, decide_eq_true_eq] at h
  refine UInt8.toNat_inj.1 ?_
  rw [(chr_dig (by omega)).2]; omega
theorem decDigits_all (x : Nat) : (decDigits x).all isDig = true := by
  induction x using Nat.strongRecOn with
  | _ x ih =>
    by_cases h : x < 10
    · rw [decDigits_small h]; simp [(chr_dig h).1, show UInt8.ofNat (48 + x) = chr x from rfl]
    · rw [decDigits_big h, List.all_append, ih (x / 10) (by omega), show UInt8.ofNat (48 + x % 10) = chr (x % 10) from rfl]
      simp [(chr_dig (Nat.mod_lt x (by decide))).1]
theorem valL_decDigits (x : Nat) : valL (decDigits x) = x := by
  induction x using Nat.strongRecOn with
  | _ x ih =>
    by_cases h : x < 10
    · rw [decDigits_small h, show UInt8.ofNat (48 + x) = chr x from rfl]
      simp [valL, (chr_dig h).2]
    · rw [decDigits_big h, show UInt8.ofNat (48 + x % 10) = chr (x % 10) from rfl, valL_snoc, ih (x / 10) (by omega), (chr_dig (Nat.mod_lt x (by decide))).2]; omega
theorem decDigits_inj {x y : Nat} (h : decDigits x = decDigits y) : x = y := by rw [← valL_decDigits x, h, valL_decDigits]
theorem decDigits_head {x : Nat} (h : x ≠ 0) : (decDigits x).head? ≠ some 48 := by
  induction x using Nat.strongRecOn with
  | _ x ih =>
    by_cases hx : x < 10
    · rw [decDigits_small hx]
      intro e
      have e2 : chr x = 48 := Option.some.inj e
      have := (chr_dig hx).2
      rw [e2] at this
      have h48 : (48 : UInt8).toNat = 48 := rfl
      omega
    · rw [decDigits_big hx]
      have h1 := ih (x / 10) (by omega) (by omega)
      obtain ⟨c, l, hcl⟩ := List.exists_cons_of_ne_nil (decDigits_ne (x / 10))
      rw [hcl] at h1 ⊢
      simpa using h1
theorem isNum_decDigits {x : Nat} (h : x ≠ 0) : isNum (decDigits x) = true := by
  unfold isNum
  rw [decDigits_all]
  simp only [Bool.and_true, Bool.and_eq_true, Bool.not_eq_true', bne_iff_ne]
  exact ⟨by simp [decDigits_ne], decDigits_head h⟩
theorem decDigits_valL {s : List UInt8} (h : isNum s = true) : valL s ≠ 0 ∧ decDigits (valL s) = s := by
  unfold isNum at h
  simp only [Bool.and_eq_true, Bool.not_eq_true', bne_iff_ne] at h
  obtain ⟨⟨h1, h2⟩, h3⟩ := h
  induction hn : s.length generalizing s with
  | zero => rw [List.eq_nil_of_length_eq_zero hn] at h1; simp at h1
  | succ n ih =>
    rcases List.eq_nil_or_concat s with rfl | ⟨t, c, rfl⟩
    · simp at h1
    · rw [List.concat_eq_append] at *
      rw [List.all_append] at h3
      simp only [Bool.and_eq_true, List.all_cons, List.all_nil, and_true] at h3
      have hc := h3.2
      unfold isDig at hc
      simp only [Bool.and_eq_true, decide_eq_true_eq] at hc
      by_cases ht : t = []
      · subst ht
        have hc48 : c ≠ 48 := by intro e; subst e; exact h2 rfl
        have hne : c.toNat ≠ 48 := fun e => hc48 (UInt8.toNat_inj.1 e)
        have hv : valL ([] ++ [c]) = c.toNat - 48 := by simp [valL]
        rw [hv]
        refine ⟨by omega, ?_⟩
        rw [decDigits_small (by omega)]
        exact congrArg (· :: []) (chr_of_dig h3.2)
      · have h2' : t.head? ≠ some 48 := by
          obtain ⟨d, l, rfl⟩ := List.exists_cons_of_ne_nil ht
          simpa using h2
        obtain ⟨i1, i2⟩ := ih (s := t) h3.1 (by simpa using ht) h2' (by simpa using hn)
        rw [valL_snoc]
        refine ⟨by omega, ?_⟩
        rw [decDigits_big (by omega), show (valL t * 10 + (c.toNat - 48)) / 10 = valL t by omega, i2, show (valL t * 10 + (c.toNat - 48)) % 10 = c.toNat - 48 by omega]
        exact congrArg (t ++ [·]) (chr_of_dig h3.2)
theorem valL_lt {s : List UInt8} (h : s.all isDig = true) : valL s < 10 ^ s.length := by
  induction hn : s.length generalizing s with
  | zero => rw [List.eq_nil_of_length_eq_zero hn]; simp [valL]
  | succ n ih =>
    rcases List.eq_nil_or_concat s with rfl | ⟨t, c, rfl⟩
    · simp at hn
    · rw [List.concat_eq_append] at *
      rw [List.all_append] at h
      simp only [Bool.and_eq_true, List.all_cons, List.all_nil, and_true] at h
      have hc := h.2
      unfold isDig at hc
      simp only [Bool.and_eq_true, decide_eq_true_eq] at hc
      have := ih h.1 (by simpa using hn)
      rw [valL_snoc, Nat.pow_succ]; omega
theorem decFrom_val {s : List UInt8} (h : s.all isDig = true) (acc : Nat) : decFrom acc s = some (s.foldl (fun n c => n * 10 + (c.toNat - 48)) acc) := by
  induction s generalizing acc with
  | nil => rfl
  | cons c l ih =>
    simp only [List.all_cons, Bool.and_eq_true] at h
    have hc := h.1
    unfold isDig at hc
    simp only [Bool.and_eq_true, decide_eq_true_eq] at hc
    unfold decFrom digitVal
    rw [if_pos hc]
    exact ih h.2 _
theorem atoi_num {s : List UInt8} (h : isNum s = true) : atoi s = some (valL s : Int) := by
  unfold isNum at h
  simp only [Bool.and_eq_true, Bool.not_eq_true', bne_iff_ne] at h
  obtain ⟨⟨h1, h2⟩, h3⟩ := h
  cases s with
  | nil => simp at h1
  | cons c l =>
    have hc := h3
    simp only [List.all_cons, Bool.and_eq_true] at hc
    have hc1 := hc.1
    unfold isDig at hc1
    simp only [Bool.and_eq_true, decide_eq_true_eq] at hc1
    have n45 : (c == 45) = false := by
      rw [beq_eq_false_iff_ne]; intro e; subst e; exact absurd hc1.1 (by decide)
    have n43 : (c == 43) = false := by
      rw [beq_eq_false_iff_ne]; intro e; subst e; exact absurd hc1.1 (by decide)
    unfold atoi
    simp only [n45, n43, Bool.false_eq_true, if_false, decNat, List.isEmpty_cons]
    rw [decFrom_val h3]; rfl

def digs10 : List UInt8 := [48, 49, 50, 51, 52, 53, 54, 55, 56, 57]
set_option maxRecDepth 100000 in
theorem digs10_contains (c : UInt8) : digs10.contains c = isDig c := by
  have : ∀ n : Fin 256, digs10.contains (UInt8.ofNat n.val) = isDig (UInt8.ofNat n.val) := by decide
  have h := this ⟨c.toNat, c.toNat_lt⟩
  simpa using h
theorem dropWhile_head {α : Type} {p : α → Bool} {l r : List α} {x : α} (h : l.dropWhile p = x :: r) : p x = false := by
  induction l with
  | nil => cases h
  | cons y l ih =>
    rw [List.dropWhile_cons] at h
    split at h
    · exact ih h
    · rename_i hy
      cases h; simpa using hy
theorem dropWhile_nil {α : Type} {p : α → Bool} {l : List α} : l.dropWhile p = [] ↔ l.all p = true := by
  induction l with
  | nil => simp
  | cons x l ih =>
    rw [List.dropWhile_cons, List.all_cons]
    by_cases h : p x = true
    · rw [if_pos h, ih, h]; simp
    · rw [if_neg h]; simp [h]
theorem trimS_nil (s : List UInt8) : trimS s digs10 = [] ↔ s.all isDig = true := by
  have hf : (fun c => digs10.contains c) = isDig := funext digs10_contains
  unfold trimS trimLeftS trimRightS
  rw [hf, dropWhile_nil]
  constructor
  · intro h
    rw [List.all_reverse] at h
    have h2 : s.reverse.dropWhile isDig = [] := by
      cases hd : s.reverse.dropWhile isDig with
      | nil => rfl
      | cons c l =>
        have hc2 : isDig c = false := dropWhile_head hd
        rw [hd] at h
        simp [hc2] at h
    rw [dropWhile_nil, List.all_reverse] at h2; exact h2
  · intro h
    rw [List.all_reverse]
    rw [List.all_eq_true] at h ⊢
    intro c hc
    exact h c (List.mem_reverse.1 ((List.dropWhile_suffix isDig).mem hc))
end Go.Dec
namespace Go.Dec
open Go.Lib

/-- A term: coefficient, exponents. -/
abbrev Tm := Nat × Nat × Nat
def tmL (t : Tm) : List UInt8 := decDigits t.1 ++ (pw 120 t.2.1 ++ pw 121 t.2.2)
def TmOK (t : Tm) : Prop := t.1 ≠ 0 ∧ t.2.1 < 1000000000 ∧ t.2.2 < 1000000000
def textT (L : List Tm) : List UInt8 := join (L.map tmL) plusL
/-- What may follow a term. -/
def Stop (r : List UInt8) : Prop := r = [] ∨ ∃ r', r = plusL ++ r'

theorem textT_cons (t : Tm) {L : List Tm} (h : L ≠ []) : textT (t :: L) = tmL t ++ (plusL ++ textT L) := by
  unfold textT
  rw [List.map_cons, join_two _ (by simpa using h), List.append_assoc]
theorem textT_one (t : Tm) : textT [t] = tmL t := by simp [textT, join_one]
/-- A text is a term and what follows. -/
theorem textT_split (t : Tm) (L : List Tm) : ∃ r, textT (t :: L) = tmL t ++ r ∧ ((L = [] ∧ r = []) ∨ (L ≠ [] ∧ r = plusL ++ textT L)) := by
  by_cases h : L = []
  · subst h; exact ⟨[], by rw [textT_one]; simp, .inl ⟨rfl, rfl⟩⟩
  · exact ⟨_, textT_cons t h, .inr ⟨h, rfl⟩⟩

/-- A row of digits, and what follows, is taken apart in one way. -/
theorem span_dec {x : Nat} {r : List UInt8} (hr : ∀ c l, r = c :: l → isDig c = false) : (decDigits x ++ r).takeWhile isDig = decDigits x ∧ (decDigits x ++ r).dropWhile isDig = r := by
  have h := decDigits_all x
  generalize decDigits x = d at h
  induction d with
  | nil =>
    cases r with
    | nil => exact ⟨rfl, rfl⟩
    | cons c l =>
      have := hr c l rfl
      simp [this]
  | cons c l ih =>
    simp only [List.all_cons, Bool.and_eq_true] at h
    simp only [List.cons_append, List.takeWhile_cons, List.dropWhile_cons, h.1, if_true]
    exact ⟨by rw [(ih h.2).1], (ih h.2).2⟩
theorem stop_head {r : List UInt8} (h : Stop r) : ∀ c l, r = c :: l → isDig c = false := by
  rintro c l rfl
  rcases h with h | ⟨r', h⟩
  · cases h
  · cases h; rfl
theorem pw_head {c0 : UInt8} {n : Nat} {r : List UInt8} (hr : ∀ c l, r = c :: l → isDig c = false) : ∀ c l, pw c0 n ++ r = c :: l → isDig c = false := by
  intro c l h
  unfold pw at h
  split at h
  · exact hr c l h
  · cases h; rfl

/-- An optional power, as the reference reads it. -/
def powR (c0 : UInt8) (s : List UInt8) : Option (Nat × List UInt8) :=
  if [32, c0, 94].isPrefixOf s then
    if isNum ((s.drop 3).takeWhile isDig) = true ∧ ((s.drop 3).takeWhile isDig).length ≤ 9 then some (valL ((s.drop 3).takeWhile isDig), (s.drop 3).dropWhile isDig) else none
  else some (0, s)
/-- A term, as the reference reads it. -/
def stepR (s : List UInt8) : Option (Tm × List UInt8) :=
  if isNum (s.takeWhile isDig) = true then
    match powR 120 (s.dropWhile isDig) with
    | none => none
    | some (a, r) => match powR 121 r with
      | none => none
      | some (b, r') => some ((valL (s.takeWhile isDig), a, b), r')
  else none

theorem powR_sound {c0 : UInt8} {s r : List UInt8} {n : Nat} (h : powR c0 s = some (n, r)) : s = pw c0 n ++ r ∧ n < 1000000000 := by
  unfold powR at h
  split at h
  · rename_i hp
    split at h
    · rename_i hn
      cases h
      obtain ⟨t, ht⟩ := List.isPrefixOf_iff_prefix.1 hp
      obtain ⟨h1, h2⟩ := decDigits_valL hn.1
      have hall : ((s.drop 3).takeWhile isDig).all isDig = true := List.all_takeWhile
      have hlt := valL_lt hall
      have hlt2 : valL ((s.drop 3).takeWhile isDig) < 10 ^ 9 := Nat.lt_of_lt_of_le hlt (Nat.pow_le_pow_right (by decide) hn.2)
      refine ⟨?_, hlt2⟩
      unfold pw
      rw [if_neg h1, h2, List.append_assoc, List.takeWhile_append_dropWhile, ← ht]; rfl
    · cases h
  · cases h
    exact ⟨by simp [pw], by decide⟩
theorem powR_complete {c0 : UInt8} {n : Nat} {r : List UInt8} (hn : n < 1000000000) (hr : ∀ c l, r = c :: l → isDig c = false) (hno : n = 0 → [32, c0, 94].isPrefixOf r = false) : powR c0 (pw c0 n ++ r) = some (n, r) := by
  unfold powR pw
  by_cases h0 : n = 0
  · subst h0
    rw [if_pos rfl, List.nil_append, hno rfl]; rfl
  · rw [if_neg h0]
    have hp : [32, c0, 94].isPrefixOf ([32, c0, 94] ++ decDigits n ++ r) = true := by
      rw [List.append_assoc]; exact List.isPrefixOf_iff_prefix.2 (List.prefix_append _ _)
    have hd : ([32, c0, 94] ++ decDigits n ++ r).drop 3 = decDigits n ++ r := rfl
    obtain ⟨s1, s2⟩ := span_dec (x := n) hr
    rw [hp, hd, s1, s2, valL_decDigits]
    simp only [if_true]
    rw [if_pos ⟨isNum_decDigits h0, decDigits_length_le (by decide) hn⟩]
theorem stepR_sound {s r : List UInt8} {t : Tm} (h : stepR s = some (t, r)) : s = tmL t ++ r ∧ TmOK t := by
  unfold stepR at h
  split at h
  · rename_i hn
    split at h
    · cases h
    · rename_i a r1 h1
      split at h
      · cases h
      · rename_i b r2 h2
        cases h
        obtain ⟨p1, q1⟩ := powR_sound h1
        obtain ⟨p2, q2⟩ := powR_sound h2
        obtain ⟨v1, v2⟩ := decDigits_valL hn
        refine ⟨?_, v1, q1, q2⟩
        unfold tmL
        dsimp only
        rw [v2, List.append_assoc, List.append_assoc, ← p2, ← p1, List.takeWhile_append_dropWhile]
  · cases h
theorem stepR_complete {t : Tm} {r : List UInt8} (ht : TmOK t) (hr : Stop r) : stepR (tmL t ++ r) = some (t, r) := by
  obtain ⟨x, a, b⟩ := t
  obtain ⟨hx, ha, hb⟩ := ht
  dsimp only at hx ha hb
  have hr1 := stop_head hr
  have hr2 := pw_head (c0 := 121) (n := b) hr1
  have hr3 := pw_head (c0 := 120) (n := a) hr2
  have e : tmL (x, a, b) ++ r = decDigits x ++ (pw 120 a ++ (pw 121 b ++ r)) := by simp only [tmL, List.append_assoc]
  obtain ⟨s1, s2⟩ := span_dec (x := x) hr3
  have c2 : powR 121 (pw 121 b ++ r) = some (b, r) := powR_complete hb hr1 fun _ => by
    rcases hr with rfl | ⟨r', rfl⟩ <;> rfl
  have c1 : powR 120 (pw 120 a ++ (pw 121 b ++ r)) = some (a, pw 121 b ++ r) := powR_complete ha hr2 fun _ => by
    unfold pw
    split
    · rcases hr with rfl | ⟨r', rfl⟩ <;> rfl
    · rfl
  unfold stepR
  rw [e, s1, s2, if_pos (isNum_decDigits hx), c1]
  dsimp only
  rw [c2, valL_decDigits]
/-- A term is read in one way. -/
theorem tm_uniq {t t' : Tm} {r r' : List UInt8} (ht : TmOK t) (ht' : TmOK t') (hr : Stop r) (hr' : Stop r') (h : tmL t ++ r = tmL t' ++ r') : t = t' ∧ r = r' := by
  have := stepR_complete ht hr
  rw [h, stepR_complete ht' hr'] at this
  cases this; exact ⟨rfl, rfl⟩

theorem stop_text {L : List Tm} {r : List UInt8} (h : (L = [] ∧ r = []) ∨ (L ≠ [] ∧ r = plusL ++ textT L)) : Stop r := by
  rcases h with ⟨_, h⟩ | ⟨_, h⟩
  · exact .inl h
  · exact .inr ⟨_, h⟩
/-- A text is read in one way. -/
theorem textT_inj : ∀ {L L' : List Tm}, L ≠ [] → L' ≠ [] → (∀ t ∈ L, TmOK t) → (∀ t ∈ L', TmOK t) → textT L = textT L' → L = L'
  | [], _, h, _, _, _, _ => absurd rfl h
  | _ :: _, [], _, h, _, _, _ => absurd rfl h
  | t :: L, t' :: L', _, _, h1, h2, h => by
    obtain ⟨r, e, hr⟩ := textT_split t L
    obtain ⟨r', e', hr'⟩ := textT_split t' L'
    rw [e, e'] at h
    obtain ⟨rfl, rfl⟩ := tm_uniq (h1 t (by simp)) (h2 t' (by simp)) (stop_text hr) (stop_text hr') h
    congr 1
    rcases hr with ⟨rfl, rfl⟩ | ⟨n1, rfl⟩
    · rcases hr' with ⟨rfl, _⟩ | ⟨_, h'⟩
      · rfl
      · cases h'
    · rcases hr' with ⟨_, h'⟩ | ⟨n2, h'⟩
      · cases h'
      · exact textT_inj n1 n2 (fun x hx => h1 x (by simp [hx])) (fun x hx => h2 x (by simp [hx])) (List.append_cancel_left h')
/-- What has been read is a head of the text's terms. -/
theorem textT_prefix : ∀ {D L : List Tm} {s : List UInt8}, (∀ t ∈ D, TmOK t) → (∀ t ∈ L, TmOK t) → L ≠ [] → textT L = (if D = [] then s else textT D ++ plusL ++ s) → ∃ L', (L = D ++ L' ∧ L' ≠ [] ∧ s = textT L') ∨ False
  | [], L, s, _, _, hL, h => ⟨L, .inl ⟨rfl, hL, by rw [if_pos rfl] at h; exact h.symm⟩⟩
  | t :: D, L, s, h1, h2, hL, h => by
    obtain ⟨t', L, rfl⟩ := List.exists_cons_of_ne_nil hL
    rw [if_neg (by simp)] at h
    obtain ⟨r, e, hr⟩ := textT_split t D
    obtain ⟨r', e', hr'⟩ := textT_split t' L
    have hs : Stop (r ++ plusL ++ s) := by
      rcases hr with ⟨_, rfl⟩ | ⟨_, rfl⟩
      · exact .inr ⟨s, rfl⟩
      · exact .inr ⟨textT D ++ plusL ++ s, by simp⟩
    have e2 : tmL t' ++ r' = tmL t ++ (r ++ plusL ++ s) := by rw [← e', h, e]; simp
    obtain ⟨rfl, rfl⟩ := tm_uniq (h2 t' (by simp)) (h1 t (by simp)) (stop_text hr') hs e2
    rcases hr' with ⟨_, h'⟩ | ⟨n2, h'⟩
    · have := congrArg List.length h'
      simp [plusL] at this
    · rcases hr with ⟨rfl, rfl⟩ | ⟨n1, rfl⟩
      · refine ⟨L, .inl ⟨rfl, n2, ?_⟩⟩
        rw [List.nil_append] at h'
        exact List.append_cancel_left h'
      · have h3 : textT L = (if D = [] then s else textT D ++ plusL ++ s) := by
          rw [if_neg n1]
          rw [List.append_assoc, List.append_assoc] at h'
          rw [← List.append_cancel_left h', List.append_assoc]
        obtain ⟨L', ⟨q1, q2, q3⟩ | q⟩ := textT_prefix (fun x hx => h1 x (by simp [hx])) (fun x hx => h2 x (by simp [hx])) n2 h3
        · exact ⟨L', .inl ⟨by rw [q1]; rfl, q2, q3⟩⟩
        · exact q.elim
theorem dec_no {c : UInt8} (hc : isDig c = false) (x : Nat) : c ∉ decDigits x := by
  intro h
  have := List.all_eq_true.1 (decDigits_all x) c h
  rw [hc] at this; cases this
theorem tm_no43 (t : Tm) : (43 : UInt8) ∉ tmL t := by
  have h : ∀ (c0 : UInt8) n, c0 ≠ 43 → (43 : UInt8) ∉ pw c0 n := by
    intro c0 n hc hm
    unfold pw at hm
    split at hm
    · cases hm
    · rcases List.mem_append.1 hm with hm | hm
      · simp at hm; exact hc hm.symm
      · exact dec_no rfl _ hm
  unfold tmL
  intro hm
  rcases List.mem_append.1 hm with hm | hm
  · exact dec_no rfl _ hm
  · rcases List.mem_append.1 hm with hm | hm
    · exact h 120 _ (by decide) hm
    · exact h 121 _ (by decide) hm
theorem split_text {L : List Tm} (h : L ≠ []) : split (textT L) plusL = L.map tmL := by
  refine split_join (u := [32]) (v := [32]) (c := 43) (by decide) (L.map tmL) (by simpa using h) fun p hp => ?_
  obtain ⟨t, _, rfl⟩ := List.mem_map.1 hp
  exact tm_no43 t
/-- The words of a term. -/
def wordsT (t : Tm) : List (List UInt8) := decDigits t.1 :: ((if t.2.1 = 0 then [] else [[120, 94] ++ decDigits t.2.1]) ++ (if t.2.2 = 0 then [] else [[121, 94] ++ decDigits t.2.2]))
theorem join_words (t : Tm) : join (wordsT t) [32] = tmL t := by
  obtain ⟨x, a, b⟩ := t
  unfold wordsT tmL pw
  dsimp only
  by_cases ha : a = 0 <;> by_cases hb : b = 0 <;> simp [ha, hb, join_cons, joinTail]
theorem split_words (t : Tm) : split (tmL t) [32] = wordsT t := by
  rw [← join_words]
  refine split_join (u := []) (v := []) (c := 32) (by simp) (wordsT t) (by simp [wordsT]) fun p hp => ?_
  have h : ∀ (c0 : UInt8) n, c0 ≠ 32 → (32 : UInt8) ∉ [c0, 94] ++ decDigits n := by
    intro c0 n hc hm
    rcases List.mem_append.1 hm with hm | hm
    · simp at hm; exact hc hm.symm
    · exact dec_no rfl _ hm
  unfold wordsT at hp
  rcases List.mem_cons.1 hp with rfl | hp
  · exact dec_no rfl _
  · rcases List.mem_append.1 hp with hp | hp
    · split at hp
      · cases hp
      · obtain rfl := List.mem_singleton.1 hp; exact h 120 _ (by decide)
    · split at hp
      · cases hp
      · obtain rfl := List.mem_singleton.1 hp; exact h 121 _ (by decide)
end Go.Dec
namespace Go.Dec
open Go.Lib
/-- An optional word with a power, as the program reads it. -/
def optW (c0 : UInt8) : List (List UInt8) → Option (Nat × List (List UInt8))
  | [] => some (0, [])
  | w :: r => if [c0, 94].isPrefixOf w then (if isNum (w.drop 2) = true ∧ (w.drop 2).length ≤ 9 then some (valL (w.drop 2), r) else none) else some (0, w :: r)
def readW : List (List UInt8) → Option Tm
  | [] => none
  | w0 :: ws => if isNum w0 = true then
      match optW 120 ws with
      | none => none
      | some (a, ws1) => match optW 121 ws1 with
        | none => none
        | some (b, ws2) => if ws2 = [] then some (valL w0, a, b) else none
    else none
theorem optW_sound {c0 : UInt8} {ws r : List (List UInt8)} {n : Nat} (h : optW c0 ws = some (n, r)) : ws = (if n = 0 then [] else [[c0, 94] ++ decDigits n]) ++ r ∧ n < 1000000000 := by
  cases ws with
  | nil => cases h; exact ⟨rfl, by decide⟩
  | cons w l =>
    rw [optW] at h
    split at h
    · rename_i hp
      split at h
      · rename_i hn
        cases h
        obtain ⟨t, ht⟩ := List.isPrefixOf_iff_prefix.1 hp
        obtain ⟨h1, h2⟩ := decDigits_valL hn.1
        have hall : (w.drop 2).all isDig = true := by
          have := hn.1
          unfold isNum at this
          simp only [Bool.and_eq_true] at this
          exact this.2
        have hlt := valL_lt hall
        refine ⟨?_, Nat.lt_of_lt_of_le hlt (Nat.pow_le_pow_right (by decide) hn.2)⟩
        rw [if_neg h1, h2, ← ht]; rfl
      · cases h
    · cases h; exact ⟨rfl, by decide⟩
theorem readW_sound {s : List UInt8} {t : Tm} (h : readW (split s [32]) = some t) : s = tmL t ∧ TmOK t := by
  have hj := join_split s [32]
  generalize split s [32] = ws at *
  cases ws with
  | nil => cases h
  | cons w0 ws =>
    rw [readW] at h
    split at h
    · rename_i hn
      split at h
      · cases h
      · rename_i a ws1 h1
        split at h
        · cases h
        · rename_i b ws2 h2
          split at h
          · rename_i h3
            cases h; subst h3
            obtain ⟨p1, q1⟩ := optW_sound h1
            obtain ⟨p2, q2⟩ := optW_sound h2
            obtain ⟨v1, v2⟩ := decDigits_valL hn
            refine ⟨?_, v1, q1, q2⟩
            rw [← join_words, ← hj]
            unfold wordsT
            dsimp only
            rw [v2, p1, p2, List.append_nil]
          · cases h
    · cases h
theorem optW_complete {c0 : UInt8} {n : Nat} {r : List (List UInt8)} (hn : n < 1000000000) (hr : n = 0 → ∀ w l, r = w :: l → [c0, 94].isPrefixOf w = false) : optW c0 ((if n = 0 then [] else [[c0, 94] ++ decDigits n]) ++ r) = some (n, r) := by
  by_cases h0 : n = 0
  · subst h0
    rw [if_pos rfl, List.nil_append]
    cases r with
    | nil => rfl
    | cons w l => rw [optW, hr rfl w l rfl]; rfl
  · rw [if_neg h0]
    have hp : [c0, 94].isPrefixOf ([c0, 94] ++ decDigits n) = true := List.isPrefixOf_iff_prefix.2 (List.prefix_append _ _)
    have hd : ([c0, 94] ++ decDigits n).drop 2 = decDigits n := rfl
    rw [List.singleton_append]
    rw [optW, hp, hd, valL_decDigits]
    simp only [if_true]
    rw [if_pos ⟨isNum_decDigits h0, decDigits_length_le (by decide) hn⟩]
theorem readW_complete {t : Tm} (ht : TmOK t) : readW (split (tmL t) [32]) = some t := by
  obtain ⟨x, a, b⟩ := t
  obtain ⟨hx, ha, hb⟩ := ht
  dsimp only at hx ha hb
  rw [split_words]
  unfold wordsT
  dsimp only
  rw [readW, if_pos (isNum_decDigits hx)]
  have c1 : optW 120 ((if a = 0 then [] else [[120, 94] ++ decDigits a]) ++ (if b = 0 then [] else [[121, 94] ++ decDigits b])) = some (a, if b = 0 then [] else [[121, 94] ++ decDigits b]) := optW_complete ha fun _ w l h => by
    split at h
    · cases h
    · cases h; rfl
  have c2 : optW 121 (if b = 0 then [] else [[121, 94] ++ decDigits b]) = some (b, []) := by
    have := optW_complete (c0 := 121) (r := []) hb (fun _ w l h => by cases h)
    rw [List.append_nil] at this; exact this
  rw [c1]
  dsimp only
  rw [c2]
  dsimp only
  rw [if_pos rfl, valL_decDigits]
theorem readW_none1 {w0 : List UInt8} {ws : List (List UInt8)} (h : isNum w0 = true) (h1 : optW 120 ws = none) : readW (w0 :: ws) = none := by
  rw [readW, if_pos h, h1]
theorem readW_none2 {w0 : List UInt8} {ws ws1 : List (List UInt8)} {a : Nat} (h : isNum w0 = true) (h1 : optW 120 ws = some (a, ws1)) (h2 : optW 121 ws1 = none) : readW (w0 :: ws) = none := by
  rw [readW, if_pos h, h1]
  dsimp only
  rw [h2]
theorem readW_some {w0 : List UInt8} {ws ws1 ws2 : List (List UInt8)} {a b : Nat} (h : isNum w0 = true) (h1 : optW 120 ws = some (a, ws1)) (h2 : optW 121 ws1 = some (b, ws2)) : readW (w0 :: ws) = if ws2 = [] then some (valL w0, a, b) else none := by
  rw [readW, if_pos h, h1]
  dsimp only
  rw [h2]
theorem optW_skip {c0 : UInt8} {w : List UInt8} {l : List (List UInt8)} (h : [c0, 94].isPrefixOf w = false) : optW c0 (w :: l) = some (0, w :: l) := by
  rw [optW, h]; rfl
theorem optW_take {c0 : UInt8} {w : List UInt8} {l : List (List UInt8)} (h : [c0, 94].isPrefixOf w = true) (hn : isNum (w.drop 2) = true) (hl : (w.drop 2).length ≤ 9) : optW c0 (w :: l) = some (valL (w.drop 2), l) := by
  rw [optW, if_pos h, if_pos ⟨hn, hl⟩]
theorem optW_fail {c0 : UInt8} {w : List UInt8} {l : List (List UInt8)} (h : [c0, 94].isPrefixOf w = true) (hn : ¬ (isNum (w.drop 2) = true ∧ (w.drop 2).length ≤ 9)) : optW c0 (w :: l) = none := by
  rw [optW, if_pos h, if_neg hn]
end Go.Dec
namespace Go.PolyL

theorem conv_zero_l (g : Nat → Nat → Nat) : conv (fun _ _ => 0) g = fun _ _ => 0 := by
  funext a b
  unfold conv
  split
  · exact sumL_zero fun s _ => sumL_zero fun t _ => by split <;> simp
  · rfl
theorem conv_comm (f g : Nat → Nat → Nat) : conv f g = conv g f := by
  funext a b
  unfold conv
  split
  · rw [sumL_comm]
    refine sumL_congr fun s _ => sumL_congr fun t _ => ?_
    by_cases h : t.1 + s.1 = a ∧ t.2 + s.2 = b
    · rw [if_pos h, if_pos (by omega), Nat.mul_comm]
    · rw [if_neg h, if_neg (by omega)]
  · rfl
theorem conv_zero_r (f : Nat → Nat → Nat) : conv f (fun _ _ => 0) = fun _ _ => 0 := by rw [conv_comm, conv_zero_l]
theorem conv_add (f g h : Nat → Nat → Nat) : conv f (fun a b => g a b + h a b) = fun a b => conv f g a b + conv f h a b := by
  funext a b
  unfold conv
  split
  · rw [← sumL_add]
    refine sumL_congr fun s _ => ?_
    rw [← sumL_add]
    refine sumL_congr fun t _ => ?_
    split
    · rw [Nat.mul_add]
    · rfl
  · rfl
theorem conv_one (f : Nat → Nat → Nat) (hf : ∀ a b, f a b ≠ 0 → a ≤ 2048 ∧ b ≤ 2048) (one : Nat → Nat → Nat) (h1 : one 0 0 = 1) (h0 : ∀ a b, ¬ (a = 0 ∧ b = 0) → one a b = 0) : conv f one = f := by
  funext a b
  unfold conv
  split
  · rename_i hab
    have e : ∀ s : Nat × Nat, (sumL box fun t => if s.1 + t.1 = a ∧ s.2 + t.2 = b then f s.1 s.2 * one t.1 t.2 else 0) = if s = (a, b) then f a b else 0 := by
      intro s
      have e1 : (sumL box fun t => if s.1 + t.1 = a ∧ s.2 + t.2 = b then f s.1 s.2 * one t.1 t.2 else 0) = sumL box fun t => if t = (0, 0) then (if s = (a, b) then f a b else 0) else 0 := by
        refine sumL_congr fun t _ => ?_
        by_cases ht : t = (0, 0)
        · subst ht
          rw [if_pos rfl]
          by_cases hs : s = (a, b)
          · subst hs; rw [if_pos (by simp), if_pos rfl, h1, Nat.mul_one]
          · rw [if_neg hs, if_neg]
            rintro ⟨h, h'⟩; exact hs (Prod.ext h h')
        · rw [if_neg ht]
          split
          · rw [h0 _ _ (fun h => ht (Prod.ext h.1 h.2)), Nat.mul_zero]
          · rfl
      rw [e1, sumL_ite nodup_box, if_pos (mem_box.2 ⟨by simp, by simp⟩)]
    rw [sumL_congr fun s _ => e s, sumL_ite nodup_box, if_pos (mem_box.2 hab)]
  · rename_i hab
    by_cases h : f a b = 0
    · exact h.symm
    · exact absurd (hf a b h) hab

/-- A product of three, all pairs at once. -/
def conv3 (f g h : Nat → Nat → Nat) : Nat → Nat → Nat := fun a b =>
  if a ≤ 2048 ∧ b ≤ 2048 then sumL box fun s => sumL box fun t => sumL box fun v => if s.1 + t.1 + v.1 = a ∧ s.2 + t.2 + v.2 = b then f s.1 s.2 * g t.1 t.2 * h v.1 v.2 else 0 else 0
theorem conv_conv (f g h : Nat → Nat → Nat) : conv (conv f g) h = conv3 f g h := by
  funext a b
  unfold conv3
  rw [conv]
  by_cases hab : a ≤ 2048 ∧ b ≤ 2048
  · rw [if_pos hab, if_pos hab]
    -- the sum over u goes inward
    have e1 : ∀ u ∈ box, (sumL box fun v => if u.1 + v.1 = a ∧ u.2 + v.2 = b then conv f g u.1 u.2 * h v.1 v.2 else 0) =
        sumL box fun s => sumL box fun t => sumL box fun v => if u = (s.1 + t.1, s.2 + t.2) then (if s.1 + t.1 + v.1 = a ∧ s.2 + t.2 + v.2 = b then f s.1 s.2 * g t.1 t.2 * h v.1 v.2 else 0) else 0 := by
      intro u hu
      have hu' := mem_box.1 hu
      have e2 : ∀ v : Nat × Nat, (if u.1 + v.1 = a ∧ u.2 + v.2 = b then conv f g u.1 u.2 * h v.1 v.2 else 0) =
          sumL box fun s => sumL box fun t => if u = (s.1 + t.1, s.2 + t.2) then (if s.1 + t.1 + v.1 = a ∧ s.2 + t.2 + v.2 = b then f s.1 s.2 * g t.1 t.2 * h v.1 v.2 else 0) else 0 := by
        intro v
        by_cases huv : u.1 + v.1 = a ∧ u.2 + v.2 = b
        · rw [if_pos huv, conv, if_pos hu', ← sumL_mulr]
          refine sumL_congr fun s _ => ?_
          rw [← sumL_mulr]
          refine sumL_congr fun t _ => ?_
          by_cases hst : s.1 + t.1 = u.1 ∧ s.2 + t.2 = u.2
          · rw [if_pos hst, if_pos (Prod.ext hst.1.symm hst.2.symm), if_pos (by omega)]
          · rw [if_neg hst, if_neg (fun e => hst (by rw [e]; exact ⟨rfl, rfl⟩)), Nat.zero_mul]
        · rw [if_neg huv]
          symm
          refine sumL_zero fun s _ => sumL_zero fun t _ => ?_
          split
          · rename_i e
            rw [if_neg]
            rw [e] at huv; exact huv
          · rfl
      rw [sumL_congr fun v _ => e2 v, sumL_comm]
      refine sumL_congr fun s _ => ?_
      rw [sumL_comm]
    rw [sumL_congr e1, sumL_comm]
    refine sumL_congr fun s _ => ?_
    rw [sumL_comm]
    refine sumL_congr fun t _ => ?_
    rw [sumL_comm]
    refine sumL_congr fun v _ => ?_
    rw [sumL_ite nodup_box]
    by_cases hm : (s.1 + t.1, s.2 + t.2) ∈ box
    · rw [if_pos hm]
    · rw [if_neg hm, if_neg]
      rintro ⟨h1, h2⟩
      refine hm (mem_box.2 ⟨?_, ?_⟩)
      · show s.1 + t.1 ≤ 2048; omega
      · show s.2 + t.2 ≤ 2048; omega
  · rw [if_neg hab, if_neg hab]
theorem conv3_rot (f g h : Nat → Nat → Nat) : conv3 f g h = conv3 g h f := by
  funext a b
  unfold conv3
  split
  · rw [sumL_comm]
    refine sumL_congr fun t _ => ?_
    rw [sumL_comm]
    refine sumL_congr fun v _ => sumL_congr fun s _ => ?_
    by_cases h1 : s.1 + t.1 + v.1 = a ∧ s.2 + t.2 + v.2 = b
    · rw [if_pos h1, if_pos (by omega)]
      rw [Nat.mul_assoc, Nat.mul_comm]
    · rw [if_neg h1, if_neg (by omega)]
  · rfl
theorem conv_assoc (f g h : Nat → Nat → Nat) : conv (conv f g) h = conv f (conv g h) := by
  rw [conv_conv, conv_comm f (conv g h), conv_conv, conv3_rot]

theorem conv_le {f g : Nat → Nat → Nat} {c : Nat} (h : ∀ a b d e, f a b * g d e ≤ c) (a b : Nat) : conv f g a b ≤ 4198401 * (4198401 * c) := by
  unfold conv
  split
  · have h1 : ∀ s ∈ box, (sumL box fun t => if s.1 + t.1 = a ∧ s.2 + t.2 = b then f s.1 s.2 * g t.1 t.2 else 0) ≤ 4198401 * c := fun s _ => by
      have := sumL_le (l := box) (F := fun t => if s.1 + t.1 = a ∧ s.2 + t.2 = b then f s.1 s.2 * g t.1 t.2 else 0) (c := c) fun t _ => by
        split
        · exact h _ _ _ _
        · exact Nat.zero_le _
      rw [length_box] at this; exact this
    have := sumL_le h1
    rw [length_box] at this; exact this
  · exact Nat.zero_le _
end Go.PolyL
