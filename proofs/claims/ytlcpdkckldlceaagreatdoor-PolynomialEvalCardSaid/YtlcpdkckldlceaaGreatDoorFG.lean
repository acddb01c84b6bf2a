/-
  Texts of numbers.
-/
import Derived.Test.YtlcpdkckldlceaaGreatDoorFF
import Derived.Test.YtlcpdkckldlceaaGreatDoorLayStr
namespace Go.Proofs.YtlcpdkckldlceaaGreatDoor
open Go.Sx Go.Nat32 Go.PolyL Go.Proofs
set_option maxRecDepth 100000

/-- The table of the powers of ten lies in every world that has M. -/
def TabM (M : RO) : Prop := ∀ w : World, (∀ b o, M b = some o → w.heap[b]? = some o) → Lib.TabIs Tryz.prog w "internal/strconv.uint64pow10" .u64 Lib.pow10Tab
theorem TabM.mono {M M' : RO} (h : TabM M) (hM : M.le M') : TabM M' := fun w hw => h w fun b o hb => hw b o (hM b o hb)

def str (l : List UInt8) : Value := .string ⟨l.toArray⟩

theorem itoa_spec {M : RO} (hT : TabM M) {n : Int} (h0 : -9223372036854775808 ≤ n) (h1 : n ≤ 9223372036854775807) :
    Sp Tryz.prog 67 [.int .i64 n] M [] fun r M' L' => L' = [] ∧ M' = M ∧ r = str (Lib.itoa n) := by
  intro E hE H
  refine (Tryz.strconv_Itoa n h0 h1 E.w (hT E.w fun b o hb => H.ro hb)).mono ?_
  rintro e w' ⟨rfl, k, os, rfl⟩
  exact ⟨_, M, [], rfl, Hp.grow (H.draw (E.w.drawn + k) (Nat.le_add_right _ _)) os, rfl, rfl, rfl⟩

theorem repeat_spec {M : RO} {s : List UInt8} {c : Nat} (hc : c ≤ 9223372036854775807) (hl : s.length * c ≤ 140737488355328) :
    Sp0 Tryz.prog 77 [str s, .int .i64 (c : Int)] M [] fun r M' L' => L' = [] ∧ M' = M ∧ r = str (Lib.repeatL s c) := by
  intro E hd hE H
  refine (Tryz.strings_Repeat ⟨s.toArray⟩ c E.w hc (by simpa [ByteArray.size] using hl)).mono ?_
  rintro e w' ⟨rfl, hb⟩
  exact ⟨_, M, [], rfl, H.below hd hb, rfl, rfl, rfl⟩

theorem join_str_spec {M : RO} {a : Option Addr} {n c : Nat} {xs : List (List UInt8)} {sep : List UInt8} (hn : n = xs.length) (hc : n ≤ c) (hr : RoRow M a (xs.map str)) (hN : xs.length ≤ 140737488355328) (hl : (Lib.join xs sep).length ≤ 140737488355328) :
    Sp0 Tryz.prog 68 [.slice a n c, str sep] M [] fun r M' L' => L' = [] ∧ M' = M ∧ r = str (Lib.join xs sep) := by
  intro E hd hE H
  subst hn
  rcases hr with h | ⟨b, o, ca, e, z, rfl, hM, hsz, hx⟩
  · have hxs : xs = [] := by simpa using h
    subst hxs
    refine (Tryz.strings_Join_none a c ⟨sep.toArray⟩ E.w).mono ?_
    rintro e w' ⟨rfl, rfl⟩
    exact ⟨_, M, [], rfl, H, rfl, rfl, rfl⟩
  · have hb := H.ro hM
    have hcells : ∀ (j : Nat) x, (xs.map fun l => (⟨l.toArray⟩ : ByteArray))[j]? = some x → E.w.cell? ⟨b, o + j, none⟩ = some (.string x) := by
      intro j x hj
      have hjl : j < xs.length := by
        rcases Nat.lt_or_ge j xs.length with h' | h'
        · exact h'
        · rw [List.getElem?_eq_none (by simpa using h')] at hj; cases hj
      have h1 := extract_get hsz hx (j := j) (by simpa using hjl)
      rw [List.getElem?_map] at h1 hj
      have h2 : E.w.cell? ⟨b, o + j, none⟩ = ca[o + j]? := by simp [World.cell?, hb]
      rw [h2, h1]
      cases hxj : xs[j]? with
      | none => rw [hxj] at hj; cases hj
      | some l => rw [hxj] at hj; cases hj; rfl
    have hblk : b < E.w.heap.size := by
      rcases Nat.lt_or_ge b E.w.heap.size with h' | h'
      · exact h'
      · rw [Array.getElem?_eq_none h'] at hb; cases hb
    have e1 : ((xs.map fun l => (⟨l.toArray⟩ : ByteArray)).map (·.data.toList)) = xs := by simp [List.map_map, Function.comp_def]
    have hcon := Tryz.strings_Join b o c (xs.map fun l => (⟨l.toArray⟩ : ByteArray)) ⟨sep.toArray⟩ E.w hcells hblk (by simpa using hN) (by simpa using hc) (by rw [e1]; exact hl)
    rw [List.length_map, e1] at hcon
    refine hcon.mono ?_
    rintro e w' ⟨rfl, hbb⟩
    exact ⟨_, M, [], rfl, H.below hd hbb, rfl, rfl, rfl⟩

end Go.Proofs.YtlcpdkckldlceaaGreatDoor
namespace Go.Proofs.YtlcpdkckldlceaaGreatDoor
open Go.Sx Go.Nat32 Go.PolyL Go.Proofs Go.Sort Go.Lib
set_option maxRecDepth 100000

theorem reverse_spec {M : RO} {v : Value} {xs : List (List UInt8)} (hlen : xs.length ≤ 4294967296) :
    Sp Tryz.prog 78 [v] M [sl 9 1 v (xs.map str)] fun _ M' L' => M' = M ∧ L' = [sl 9 1 v (xs.reverse.map str)] := by
  intro E hE H
  obtain ⟨A, R, hc, h0, hset, _⟩ := H.focus .head
  rcases hc with ⟨rfl, hx, rfl⟩ | ⟨b, c, len, cap, rfl, hl, hcap, hsz, htk, rfl⟩
  · have hxs : xs = [] := by simpa using hx
    subst hxs
    refine (Tryz.slices_Reverse_string_empty none 0 E.w).mono ?_
    rintro e w' ⟨rfl, rfl⟩
    exact ⟨_, M, _, rfl, H, rfl, rfl⟩
  · have hll : len = xs.length := by simpa using hl.symm
    subst hll
    rw [Nat.mul_one] at htk hsz
    have hb : E.w.heap[b]? = some (.cells c 9 (0, 0)) := h0.own (b, _) (by simp)
    have hcell : ∀ j, j < xs.length → c[j]? = (xs.map str)[j]? := by
      intro j hj
      rw [← htk, List.getElem?_take, if_pos hj, Array.getElem?_toList]
    have hH : Holds encStr E.w b 0 xs.toArray := by
      intro j hj
      have hj' : j < xs.length := by simpa using hj
      constructor
      · have h1 : E.w.cell? ⟨b, 0 + j, none⟩ = c[j]? := by simp [World.cell?, hb]
        rw [h1, hcell j hj', List.getElem?_map, List.getElem?_eq_getElem hj', getElem!_pos xs.toArray j hj]; rfl
      · simp [World.frozen?, hb]
    have hcon := Tryz.slices_Reverse_string b 0 cap xs E.w hH (by omega)
    refine hcon.mono ?_
    rintro e w' ⟨rfl, n, rfl⟩
    refine ⟨_, M, [sl 9 1 (.slice (some ⟨b, 0, none⟩) xs.length cap) (xs.reverse.map str)], rfl, ?_, rfl, rfl⟩
    have h0' : Hp0 E M ((b, .cells c 9 (0, 0)) :: R) (Go.Sort.ahead E.w n) :=
      { h0 with drew := fun hd => Nat.le_trans (h0.drew hd) (Nat.le_add_right _ _) }
    have h1 : Hp0 E M ((b, .cells (putCells encStr 0 xs.reverse.toArray c) 9 (0, 0)) :: R) (putRow encStr (Go.Sort.ahead E.w n) b 0 xs.reverse.toArray) := by
      refine h0'.turn rfl rfl rfl rfl (by simp [putRow, mapBlock]) ?_ fun k hk => ?_
      · show (E.w.heap.modify b (onCells (putCells encStr 0 xs.reverse.toArray)))[b]? = _
        rw [Array.getElem?_modify, if_pos rfl, hb]; rfl
      · show (E.w.heap.modify b (onCells (putCells encStr 0 xs.reverse.toArray)))[k]? = E.w.heap[k]?
        rw [Array.getElem?_modify, if_neg (Ne.symm hk)]
    refine hset E M _ (sl 9 1 (.slice (some ⟨b, 0, none⟩) xs.length cap) (xs.reverse.map str)) [(b, .cells (putCells encStr 0 xs.reverse.toArray c) 9 (0, 0))] (.inr ⟨b, _, xs.length, cap, rfl, by simp, hcap, by simp [putCells, hsz], ?_, rfl⟩) h1
    apply List.ext_getElem?
    intro j
    rw [Nat.mul_one, List.getElem?_take]
    by_cases hj : j < xs.length
    · rw [if_pos hj, Array.getElem?_toList]
      have hjs : j < xs.reverse.toArray.size := by simpa using hj
      unfold putCells
      rw [Array.getElem?_mapIdx, Array.getElem?_eq_getElem (show j < c.size by omega)]
      simp only [Option.map_some, Nat.zero_le, true_and, Nat.zero_add, hjs, if_true, Nat.sub_zero]
      rw [getElem!_pos xs.reverse.toArray j hjs, List.getElem?_map, List.getElem?_eq_getElem (by simpa using hj)]; rfl
    · rw [if_neg hj, List.getElem?_eq_none (by simp; omega)]

end Go.Proofs.YtlcpdkckldlceaaGreatDoor
