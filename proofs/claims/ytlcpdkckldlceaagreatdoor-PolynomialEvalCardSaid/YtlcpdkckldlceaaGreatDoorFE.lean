/-
  What the functions of polynomial return (first part): coefficients, sums, products, values.
-/
import Derived.Test.YtlcpdkckldlceaaGreatDoorFD
import Derived.Test.YtlcpdkckldlceaaGreatDoorFC
namespace Go.Proofs.YtlcpdkckldlceaaGreatDoor
open Go.Sx Go.Nat32
attribute [local irreducible] pt sl itc itm
set_option maxRecDepth 100000

theorem made_spec {M : RO} : Sp Tryz.prog 56 [] M [] fun v M' L' => M' = M ∧ ∃ q, v = .agg #[.map (some q)] ∧ L' = [pt q (.map #[] 0)] := by
  refine Sp.enter (n := 3) Tryz.func56 rfl Tryz.ntmps56 rfl ?_
  intro E hE H
  subst hE
  refine Goes.seq (Goes.region ?_)
  refine GoL.stepS rfl rfl (r_alloc tt24 H ?_); clear H; intro b0 w hb0 H
  refine GoL.nil ?_
  refine Goes.seq (Goes.region ?_)
  refine GoL.stepS rfl rfl (r_makeMap H ?_); clear H; intro b1 w hb1 H
  refine GoL.stepS rfl rfl (bld (cells := [.map _]) tt24 pl24 pz24 rfl (by rfl) ?_)
  refine GoL.step0 rfl (stA tt24 rfl rfl H (by repeat constructor) rfl rfl (by rfl) ?_); clear H; intro w H
  refine GoL.nil ?_
  exact Goes.ret (ret1 (v := .agg #[.map _]) rfl rfl (res_agg rfl tt24 (H.own (by repeat constructor)) rfl (by rfl)) (H.sub (L' := [pt b1 (.map #[] 0)]) (by (repeat (first | exact List.nil_sublist _ | apply List.Sublist.cons_cons | apply List.Sublist.cons)))) ⟨rfl, _, rfl, rfl⟩)

theorem with_spec {M : RO} {q a b x ck k : Nat} {es : List MapEntry} {f : Nat → Nat → Nat} {v : Value} (hm : MOk Tryz.prog 90 es ck) (hes : Ents M f es) (hv : NatV M v x) (ha : a ≤ 2048) (hb : b ≤ 2048) (lf : lim k (f a b)) (lx : lim k x) (hk : k ≤ 1000000) :
    Sp Tryz.prog 58 [.agg #[.map (some q)], key a b, v] M [pt q (.map es.toArray ck)] fun _ M' L' => ∃ es' ck', L' = [pt q (.map es'.toArray ck')] ∧ MOk Tryz.prog 90 es' ck' ∧ Ents M' (upd f a b (f a b + x)) es' := by
  obtain ⟨va, vn, vc, rfl⟩ := hv.shape
  refine Sp.enter (n := 18) Tryz.func58 rfl Tryz.ntmps58 rfl ?_
  intro E hE H
  subst hE
  refine Goes.seq (Goes.region ?_)
  refine GoL.stepS rfl rfl (bxA rfl H ?_); clear H; intro b3 w hb3 H
  refine GoL.stepS rfl rfl (bxA rfl H ?_); clear H; intro b4 w hb4 H
  refine GoL.stepS rfl rfl (bxA rfl H ?_); clear H; intro b5 w hb5 H
  refine GoL.nil ?_
  refine Goes.seq (Goes.region ?_)
  refine GoL.stepS rfl rfl (ldA tt49 rfl (H.own (by repeat constructor)) rfl (by rfl) ?_)
  refine GoL.stepS rfl rfl (r_call cc74 (isZeroN hv) H ?_); clear H; rintro v7 M7 L7 w hM7 ⟨rfl, rfl, rfl⟩ H
  refine GoL.stepS rfl rfl (r_not rfl ?_)
  refine GoL.nil ?_
  refine Goes.cond rfl (fun hc => ?_) (fun hc => ?_)
  · have hx0 : x ≠ 0 := by simpa using hc
    obtain ⟨o, ho⟩ := FindOK.ex es (key a b)
    have hfo := hes.find ho
    have hkey := key_ok (a := a) (b := b) (by omega) (by omega)
    refine Goes.regionD0 mixed (by kernel_rfl) 11 H ?_
    first | refine Ver.read (v := .pointer _) 0 rfl (by kernel_rfl) (fun M' L' w hM H => r_fieldAddr0 fo24_0 rfl ⟨rfl, rfl⟩) ?_ | refine Ver.read (v := .pointer _) 0 rfl (by kernel_rfl) (fun M' L' w hM H => r_fieldAddr fo24_0 rfl ⟨rfl, rfl⟩) ?_
    refine Ver.read (v := .map _) 1 rfl (by kernel_rfl) (fun M' L' w hM H => ldM tt22 rfl (H.own (by repeat constructor)) (by rfl) ⟨rfl, rfl⟩) ?_
    refine Ver.read (v := .agg _) 2 rfl (by kernel_rfl) (fun M' L' w hM H => ldA tt90 rfl (H.own (by repeat constructor)) rfl (by rfl) ⟨rfl, rfl⟩) ?_
    first | refine Ver.read (v := .pointer _) 3 rfl (by kernel_rfl) (fun M' L' w hM H => r_fieldAddr0 fo24_0 rfl ⟨rfl, rfl⟩) ?_ | refine Ver.read (v := .pointer _) 3 rfl (by kernel_rfl) (fun M' L' w hM H => r_fieldAddr fo24_0 rfl ⟨rfl, rfl⟩) ?_
    refine Ver.read (v := .map _) 4 rfl (by kernel_rfl) (fun M' L' w hM H => ldM tt22 rfl (H.own (by repeat constructor)) (by rfl) ⟨rfl, rfl⟩) ?_
    refine Ver.read (v := .agg _) 5 rfl (by kernel_rfl) (fun M' L' w hM H => ldA tt90 rfl (H.own (by repeat constructor)) rfl (by rfl) ⟨rfl, rfl⟩) ?_
    refine Ver.read (v := ((o.map (·.val)).getD (.agg #[.slice none 0 0]))) 6 rfl (by kernel_rfl) (fun M' L' w hM H => r_lookupO tt22 tt49 keyedP rfl rfl (H.own (by repeat constructor)) hm hkey (fun o' ho' => ho'.uniq hm ho) ⟨rfl, rfl⟩) ?_
    refine Ver.read (v := .agg _) 7 rfl (by kernel_rfl) (fun M' L' w hM H => ldA tt49 rfl (H.own (by repeat constructor)) rfl (by rfl) ⟨rfl, rfl⟩) ?_
    refine Ver.next0 8 (by kernel_rfl) rfl (by kernel_rfl) ?_
    clear H; intro w H
    refine r_call cc32 (addN hfo hv lf lx hk) H ?_
    clear H; rintro v17 M17 L17 w hM17 ⟨rfl, hv17⟩ H
    refine ⟨_, hM17, H, ?_⟩
    refine Ver.bar0 9 (by kernel_rfl) rfl (by kernel_rfl) ?_
    clear H; intro w H
    refine r_mapPut tt22 keyedP rfl rfl rfl H (by repeat constructor) hm hkey ?_
    clear H; intro es' ck' w hp hm' H
    refine ⟨_, _, RO.le.refl _, H, ?_⟩
    refine Ver.fin0 (by kernel_rfl) ?_
    clear H; intro w H
    exact Goes.done (end0 rfl rfl (H.sub (L' := [pt q (.map es'.toArray ck')]) (by (repeat (first | exact List.nil_sublist _ | apply List.Sublist.cons_cons | apply List.Sublist.cons)))) ⟨es', ck', rfl, hm', (hes.mono hM17).put ha hb hp (by omega) hv17⟩)
  · have hx0 : x = 0 := by simpa using hc
    subst hx0
    refine Goes.skip ?_
    exact Goes.done (end0 rfl rfl (H.sub (L' := [pt q (.map es.toArray ck)]) (by (repeat (first | exact List.nil_sublist _ | apply List.Sublist.cons_cons | apply List.Sublist.cons)))) ⟨es, ck, rfl, hm, hes.same⟩)

end Go.Proofs.YtlcpdkckldlceaaGreatDoor
namespace Go.Proofs.YtlcpdkckldlceaaGreatDoor
open Go.Sx Go.Nat32
attribute [local irreducible] pt sl itc itm
set_option maxRecDepth 100000

def zeroF : Nat → Nat → Nat := fun _ _ => 0
def monoF (x a b : Nat) : Nat → Nat → Nat := upd zeroF a b x

theorem polyOf {M : RO} {q ck : Nat} {es : List MapEntry} {f : Nat → Nat → Nat} (hm : MOk Tryz.prog 90 es ck) (he : Ents M f es) (hq : M q = some (.map es.toArray ck)) : PolyV M (.agg #[.map (some q)]) f :=
  ⟨_, es, ck, rfl, ⟨hm, .inr ⟨q, rfl, hq⟩⟩, he⟩

theorem monomial_ok {M : RO} {v : Value} {x a b k : Nat} (hv : NatV M v x) (ha : a ≤ 2048) (hb : b ≤ 2048) (lx : lim k x) (hk : k ≤ 1000000) :
    Sp Tryz.prog 35 [v, .int .i64 (a : Int), .int .i64 (b : Int)] M [] fun r M' L' => L' = [] ∧ ∃ q, r = .tuple #[.agg #[.map q], .int .i64 0] ∧ PolyV M' (.agg #[.map q]) (monoF x a b) := by
  obtain ⟨va, vn, vc, rfl⟩ := hv.shape
  refine Sp.enter (n := 32) Tryz.func35 rfl Tryz.ntmps35 rfl ?_
  intro E hE H
  subst hE
  refine Goes.seq (Goes.region ?_)
  refine GoL.stepS rfl rfl (bxA rfl H ?_); clear H; intro b3 w hb3 H
  refine GoL.stepS rfl rfl (r_alloc tt24 H ?_); clear H; intro b6 w hb6 H
  refine GoL.stepS rfl rfl (asI rfl ?_)
  refine GoL.nil ?_
  refine Goes.seq (Goes.seq (Goes.region ?_))
  refine GoL.stepS rfl rfl (mvI rfl ?_)
  refine GoL.stepS rfl rfl (r_lssF rfl rfl (by omega) ?_)
  refine GoL.stepS rfl rfl (mvB rfl ?_)
  refine GoL.stepYS rfl rfl rfl (mvI rfl ?_)
  refine GoL.stepYS rfl rfl rfl (r_gtrF rfl rfl (by omega) ?_)
  refine GoL.stepS rfl rfl (r_pickF (v := .bool _) rfl rfl ?_)
  refine GoL.stepS rfl rfl (mvB rfl ?_)
  refine GoL.stepYS rfl rfl rfl (mvI rfl ?_)
  refine GoL.stepYS rfl rfl rfl (r_lssF rfl rfl (by omega) ?_)
  refine GoL.stepS rfl rfl (r_pickF (v := .bool _) rfl rfl ?_)
  refine GoL.stepS rfl rfl (mvB rfl ?_)
  refine GoL.stepYS rfl rfl rfl (mvI rfl ?_)
  refine GoL.stepYS rfl rfl rfl (r_gtrF rfl rfl (by omega) ?_)
  refine GoL.stepS rfl rfl (r_pickF (v := .bool _) rfl rfl ?_)
  refine GoL.nil ?_
  refine Goes.condF rfl (rfl) ?_
  refine Goes.skip (Goes.seq (Goes.region ?_))
  refine GoL.stepS rfl rfl (r_call cc56 (made_spec) H ?_); clear H; rintro v24 M24 L24 w hM24 ⟨rfl, q, rfl, rfl⟩ H
  refine GoL.stepS rfl rfl (r_alloc tt24 H ?_); clear H; intro b8 w hb8 H
  refine GoL.step0 rfl (stA tt24 rfl rfl H (by repeat constructor) rfl rfl (by rfl) ?_); clear H; intro w H
  refine GoL.nil ?_
  refine Goes.seq (Goes.region ?_)
  refine GoL.stepS rfl rfl (ldA tt24 rfl (H.own (by repeat constructor)) rfl (by rfl) ?_)
  refine GoL.stepS rfl rfl (mvI rfl ?_)
  refine GoL.stepS rfl rfl (mvI rfl ?_)
  refine GoL.stepS rfl rfl (bld (cells := [.int _ _, .int _ _]) tt90 pl90 pz90 rfl (by rfl) ?_)
  refine GoL.stepS rfl rfl (ldA tt49 rfl (H.own (by repeat constructor)) rfl (by rfl) ?_)
  refine GoL.stepS rfl rfl (r_call cc58 (with_spec (M := E.M) (a := a) (b := b) (k := k) (f := zeroF) (.nil _ _ _) (.nil _) hv ha hb (Nat.pow_pos (by decide)) lx hk) (H.front (i := 1) (.tail .head)) ?_); clear H; rintro v30 M30 L30 w hM30 ⟨es', ck', rfl, hm', he'⟩ H
  refine GoL.nil ?_
  refine Goes.seq (Goes.region ?_)
  refine GoL.stepS rfl rfl (ldA tt24 rfl (H.own (by repeat constructor)) rfl (by rfl) ?_)
  refine GoL.step0 rfl (stA tt24 rfl rfl H (by repeat constructor) rfl rfl (by rfl) ?_); clear H; intro w H
  refine GoL.stepS rfl rfl (asI rfl ?_)
  refine GoL.nil ?_
  obtain ⟨M1, hq, hle1, H⟩ := H.freezeX (i := 0) .head
  have he2 : Ents M1 (monoF x a b) es' := by
    have e : zeroF a b + x = x := by simp [zeroF]
    rw [e] at he'; exact he'.mono hle1
  exact Goes.ret (ret2 (v := .agg #[.map _]) (v' := .int _ _) rfl rfl (res_agg rfl tt24 (H.own (by repeat constructor)) rfl (by rfl)) rfl H.nil ⟨rfl, _, rfl, polyOf hm' he2 hq⟩)

theorem monomial_bad {M : RO} {v : Value} {x : Nat} {a b : Int} (hv : NatV M v x) (hbad : ¬ (0 ≤ a ∧ a ≤ 2048 ∧ 0 ≤ b ∧ b ≤ 2048)) :
    Sp Tryz.prog 35 [v, .int .i64 a, .int .i64 b] M [] fun r M' L' => L' = [] ∧ M' = M ∧ r = .tuple #[.agg #[.map none], .int .i64 2] := by
  obtain ⟨va, vn, vc, rfl⟩ := hv.shape
  refine Sp.enter (n := 32) Tryz.func35 rfl Tryz.ntmps35 rfl ?_
  intro E hE H
  subst hE
  by_cases h1 : a < 0
  · refine Goes.seq (Goes.region ?_)
    refine GoL.stepS rfl rfl (bxA rfl H ?_); clear H; intro b3 w hb3 H
    refine GoL.stepS rfl rfl (r_alloc tt24 H ?_); clear H; intro b6 w hb6 H
    refine GoL.stepS rfl rfl (asI rfl ?_)
    refine GoL.nil ?_
    refine Goes.seq (Goes.seq (Goes.region ?_))
    refine GoL.stepS rfl rfl (mvI rfl ?_)
    refine GoL.stepS rfl rfl (r_lssT rfl rfl (by omega) ?_)
    refine GoL.stepS rfl rfl (mvB rfl ?_)
    refine GoL.stepNS rfl rfl rfl ?_
    refine GoL.stepNS rfl rfl rfl ?_
    refine GoL.stepS rfl rfl (r_pickT (v := .bool _) rfl rfl ?_)
    refine GoL.stepS rfl rfl (mvB rfl ?_)
    refine GoL.stepNS rfl rfl rfl ?_
    refine GoL.stepNS rfl rfl rfl ?_
    refine GoL.stepS rfl rfl (r_pickT (v := .bool _) rfl rfl ?_)
    refine GoL.stepS rfl rfl (mvB rfl ?_)
    refine GoL.stepNS rfl rfl rfl ?_
    refine GoL.stepNS rfl rfl rfl ?_
    refine GoL.stepS rfl rfl (r_pickT (v := .bool _) rfl rfl ?_)
    refine GoL.nil ?_
    refine Goes.condT rfl (rfl) ?_
    refine Goes.seq (Goes.region ?_)
    refine GoL.stepS rfl rfl (bld (cells := [.map _]) tt24 pl24 pz24 rfl (by rfl) ?_)
    refine GoL.step0 rfl (stA tt24 rfl rfl H (by repeat constructor) rfl rfl (by rfl) ?_); clear H; intro w H
    refine GoL.stepS rfl rfl (asI rfl ?_)
    refine GoL.nil ?_
    exact Goes.ret (ret2 (v := .agg #[.map _]) (v' := .int _ _) rfl rfl (res_agg rfl tt24 (H.own (by repeat constructor)) rfl (by rfl)) rfl H.nil ⟨rfl, rfl, rfl⟩)
  · by_cases h2 : 2048 < a
    · refine Goes.seq (Goes.region ?_)
      refine GoL.stepS rfl rfl (bxA rfl H ?_); clear H; intro b3 w hb3 H
      refine GoL.stepS rfl rfl (r_alloc tt24 H ?_); clear H; intro b6 w hb6 H
      refine GoL.stepS rfl rfl (asI rfl ?_)
      refine GoL.nil ?_
      refine Goes.seq (Goes.seq (Goes.region ?_))
      refine GoL.stepS rfl rfl (mvI rfl ?_)
      refine GoL.stepS rfl rfl (r_lssF rfl rfl (by omega) ?_)
      refine GoL.stepS rfl rfl (mvB rfl ?_)
      refine GoL.stepYS rfl rfl rfl (mvI rfl ?_)
      refine GoL.stepYS rfl rfl rfl (r_gtrT rfl rfl (by omega) ?_)
      refine GoL.stepS rfl rfl (r_pickF (v := .bool _) rfl rfl ?_)
      refine GoL.stepS rfl rfl (mvB rfl ?_)
      refine GoL.stepNS rfl rfl rfl ?_
      refine GoL.stepNS rfl rfl rfl ?_
      refine GoL.stepS rfl rfl (r_pickT (v := .bool _) rfl rfl ?_)
      refine GoL.stepS rfl rfl (mvB rfl ?_)
      refine GoL.stepNS rfl rfl rfl ?_
      refine GoL.stepNS rfl rfl rfl ?_
      refine GoL.stepS rfl rfl (r_pickT (v := .bool _) rfl rfl ?_)
      refine GoL.nil ?_
      refine Goes.condT rfl (rfl) ?_
      refine Goes.seq (Goes.region ?_)
      refine GoL.stepS rfl rfl (bld (cells := [.map _]) tt24 pl24 pz24 rfl (by rfl) ?_)
      refine GoL.step0 rfl (stA tt24 rfl rfl H (by repeat constructor) rfl rfl (by rfl) ?_); clear H; intro w H
      refine GoL.stepS rfl rfl (asI rfl ?_)
      refine GoL.nil ?_
      exact Goes.ret (ret2 (v := .agg #[.map _]) (v' := .int _ _) rfl rfl (res_agg rfl tt24 (H.own (by repeat constructor)) rfl (by rfl)) rfl H.nil ⟨rfl, rfl, rfl⟩)
    · by_cases h3 : b < 0
      · refine Goes.seq (Goes.region ?_)
        refine GoL.stepS rfl rfl (bxA rfl H ?_); clear H; intro b3 w hb3 H
        refine GoL.stepS rfl rfl (r_alloc tt24 H ?_); clear H; intro b6 w hb6 H
        refine GoL.stepS rfl rfl (asI rfl ?_)
        refine GoL.nil ?_
        refine Goes.seq (Goes.seq (Goes.region ?_))
        refine GoL.stepS rfl rfl (mvI rfl ?_)
        refine GoL.stepS rfl rfl (r_lssF rfl rfl (by omega) ?_)
        refine GoL.stepS rfl rfl (mvB rfl ?_)
        refine GoL.stepYS rfl rfl rfl (mvI rfl ?_)
        refine GoL.stepYS rfl rfl rfl (r_gtrF rfl rfl (by omega) ?_)
        refine GoL.stepS rfl rfl (r_pickF (v := .bool _) rfl rfl ?_)
        refine GoL.stepS rfl rfl (mvB rfl ?_)
        refine GoL.stepYS rfl rfl rfl (mvI rfl ?_)
        refine GoL.stepYS rfl rfl rfl (r_lssT rfl rfl (by omega) ?_)
        refine GoL.stepS rfl rfl (r_pickF (v := .bool _) rfl rfl ?_)
        refine GoL.stepS rfl rfl (mvB rfl ?_)
        refine GoL.stepNS rfl rfl rfl ?_
        refine GoL.stepNS rfl rfl rfl ?_
        refine GoL.stepS rfl rfl (r_pickT (v := .bool _) rfl rfl ?_)
        refine GoL.nil ?_
        refine Goes.condT rfl (rfl) ?_
        refine Goes.seq (Goes.region ?_)
        refine GoL.stepS rfl rfl (bld (cells := [.map _]) tt24 pl24 pz24 rfl (by rfl) ?_)
        refine GoL.step0 rfl (stA tt24 rfl rfl H (by repeat constructor) rfl rfl (by rfl) ?_); clear H; intro w H
        refine GoL.stepS rfl rfl (asI rfl ?_)
        refine GoL.nil ?_
        exact Goes.ret (ret2 (v := .agg #[.map _]) (v' := .int _ _) rfl rfl (res_agg rfl tt24 (H.own (by repeat constructor)) rfl (by rfl)) rfl H.nil ⟨rfl, rfl, rfl⟩)
      · have h4 : 2048 < b := by omega
        refine Goes.seq (Goes.region ?_)
        refine GoL.stepS rfl rfl (bxA rfl H ?_); clear H; intro b3 w hb3 H
        refine GoL.stepS rfl rfl (r_alloc tt24 H ?_); clear H; intro b6 w hb6 H
        refine GoL.stepS rfl rfl (asI rfl ?_)
        refine GoL.nil ?_
        refine Goes.seq (Goes.seq (Goes.region ?_))
        refine GoL.stepS rfl rfl (mvI rfl ?_)
        refine GoL.stepS rfl rfl (r_lssF rfl rfl (by omega) ?_)
        refine GoL.stepS rfl rfl (mvB rfl ?_)
        refine GoL.stepYS rfl rfl rfl (mvI rfl ?_)
        refine GoL.stepYS rfl rfl rfl (r_gtrF rfl rfl (by omega) ?_)
        refine GoL.stepS rfl rfl (r_pickF (v := .bool _) rfl rfl ?_)
        refine GoL.stepS rfl rfl (mvB rfl ?_)
        refine GoL.stepYS rfl rfl rfl (mvI rfl ?_)
        refine GoL.stepYS rfl rfl rfl (r_lssF rfl rfl (by omega) ?_)
        refine GoL.stepS rfl rfl (r_pickF (v := .bool _) rfl rfl ?_)
        refine GoL.stepS rfl rfl (mvB rfl ?_)
        refine GoL.stepYS rfl rfl rfl (mvI rfl ?_)
        refine GoL.stepYS rfl rfl rfl (r_gtrT rfl rfl (by omega) ?_)
        refine GoL.stepS rfl rfl (r_pickF (v := .bool _) rfl rfl ?_)
        refine GoL.nil ?_
        refine Goes.condT rfl (rfl) ?_
        refine Goes.seq (Goes.region ?_)
        refine GoL.stepS rfl rfl (bld (cells := [.map _]) tt24 pl24 pz24 rfl (by rfl) ?_)
        refine GoL.step0 rfl (stA tt24 rfl rfl H (by repeat constructor) rfl rfl (by rfl) ?_); clear H; intro w H
        refine GoL.stepS rfl rfl (asI rfl ?_)
        refine GoL.nil ?_
        exact Goes.ret (ret2 (v := .agg #[.map _]) (v' := .int _ _) rfl rfl (res_agg rfl tt24 (H.own (by repeat constructor)) rfl (by rfl)) rfl H.nil ⟨rfl, rfl, rfl⟩)

theorem term_spec {M : RO} {a b : Nat} (ha : a ≤ 2048) (hb : b ≤ 2048) :
    Sp Tryz.prog 71 [.int .i64 (a : Int), .int .i64 (b : Int)] M [] fun r M' L' => L' = [] ∧ PolyV M' r (monoF 1 a b) := by
  refine Sp.enter (n := 15) Tryz.func71 rfl Tryz.ntmps71 rfl ?_
  intro E hE H
  subst hE
  refine Goes.seq (Goes.region ?_)
  refine GoL.stepS rfl rfl (r_alloc tt24 H ?_); clear H; intro b4 w hb4 H
  refine GoL.nil ?_
  refine Goes.seq (Goes.region ?_)
  refine GoL.stepS rfl rfl (r_call cc25 (fromUint64N (x := 1) (by omega)) H ?_); clear H; rintro v8 M8 L8 w hM8 ⟨rfl, hv8⟩ H
  obtain ⟨va, vn, vc, rfl⟩ := hv8.shape
  refine GoL.stepS rfl rfl (r_mv (v := .int .i64 (a : Int)) rfl ?_)
  refine GoL.stepS rfl rfl (mvI rfl ?_)
  refine GoL.stepS rfl rfl (r_call cc35 (monomial_ok (k := 1) hv8 ha hb (show 1 < 4294967296 ^ 1 by decide) (by omega)) H ?_); clear H; rintro v11 M11 L11 w hM11 ⟨rfl, q, rfl, hp⟩ H
  refine GoL.stepS rfl rfl (mvT rfl ?_)
  refine GoL.stepS rfl rfl (r_extract rfl rfl ?_)
  refine GoL.stepS rfl rfl (r_extract rfl rfl ?_)
  refine GoL.stepS rfl rfl (r_alloc tt24 H ?_); clear H; intro b5 w hb5 H
  refine GoL.step0 rfl (stA tt24 rfl rfl H (by repeat constructor) rfl rfl (by rfl) ?_); clear H; intro w H
  refine GoL.stepS rfl rfl (asI rfl ?_)
  refine GoL.nil ?_
  refine Goes.seq (Goes.region ?_)
  refine GoL.stepS rfl rfl (ldA tt24 rfl (H.own (by repeat constructor)) rfl (by rfl) ?_)
  refine GoL.step0 rfl (stA tt24 rfl rfl H (by repeat constructor) rfl rfl (by rfl) ?_); clear H; intro w H
  refine GoL.nil ?_
  exact Goes.ret (ret1 (v := .agg #[.map _]) rfl rfl (res_agg rfl tt24 (H.own (by repeat constructor)) rfl (by rfl)) H.nil ⟨rfl, hp⟩)

theorem one_spec {M : RO} : Sp Tryz.prog 23 [] M [] fun r M' L' => L' = [] ∧ PolyV M' r (monoF 1 0 0) := by
  refine Sp.enter (n := 2) Tryz.func23 rfl Tryz.ntmps23 rfl ?_
  intro E hE H
  subst hE
  refine Goes.seq (Goes.region ?_)
  refine GoL.stepS rfl rfl (r_alloc tt24 H ?_); clear H; intro b0 w hb0 H
  refine GoL.nil ?_
  refine Goes.seq (Goes.region ?_)
  refine GoL.stepS rfl rfl (r_call cc71 (term_spec (a := 0) (b := 0) (by omega) (by omega)) H ?_); clear H; rintro v1 M1 L1 w hM1 ⟨rfl, hp⟩ H
  obtain ⟨r, es, ck, rfl, hmr, hee⟩ := hp
  refine GoL.step0 rfl (stA tt24 rfl rfl H (by repeat constructor) rfl rfl (by rfl) ?_); clear H; intro w H
  refine GoL.nil ?_
  exact Goes.ret (ret1 (v := .agg #[.map _]) rfl rfl (res_agg rfl tt24 (H.own (by repeat constructor)) rfl (by rfl)) H.nil ⟨rfl, ⟨r, es, ck, rfl, hmr, hee⟩⟩)

theorem x_spec {M : RO} : Sp Tryz.prog 63 [] M [] fun r M' L' => L' = [] ∧ PolyV M' r (monoF 1 1 0) := by
  refine Sp.enter (n := 2) Tryz.func63 rfl Tryz.ntmps63 rfl ?_
  intro E hE H
  subst hE
  refine Goes.seq (Goes.region ?_)
  refine GoL.stepS rfl rfl (r_alloc tt24 H ?_); clear H; intro b0 w hb0 H
  refine GoL.nil ?_
  refine Goes.seq (Goes.region ?_)
  refine GoL.stepS rfl rfl (r_call cc71 (term_spec (a := 1) (b := 0) (by omega) (by omega)) H ?_); clear H; rintro v1 M1 L1 w hM1 ⟨rfl, hp⟩ H
  obtain ⟨r, es, ck, rfl, hmr, hee⟩ := hp
  refine GoL.step0 rfl (stA tt24 rfl rfl H (by repeat constructor) rfl rfl (by rfl) ?_); clear H; intro w H
  refine GoL.nil ?_
  exact Goes.ret (ret1 (v := .agg #[.map _]) rfl rfl (res_agg rfl tt24 (H.own (by repeat constructor)) rfl (by rfl)) H.nil ⟨rfl, ⟨r, es, ck, rfl, hmr, hee⟩⟩)

theorem y_spec {M : RO} : Sp Tryz.prog 64 [] M [] fun r M' L' => L' = [] ∧ PolyV M' r (monoF 1 0 1) := by
  refine Sp.enter (n := 2) Tryz.func64 rfl Tryz.ntmps64 rfl ?_
  intro E hE H
  subst hE
  refine Goes.seq (Goes.region ?_)
  refine GoL.stepS rfl rfl (r_alloc tt24 H ?_); clear H; intro b0 w hb0 H
  refine GoL.nil ?_
  refine Goes.seq (Goes.region ?_)
  refine GoL.stepS rfl rfl (r_call cc71 (term_spec (a := 0) (b := 1) (by omega) (by omega)) H ?_); clear H; rintro v1 M1 L1 w hM1 ⟨rfl, hp⟩ H
  obtain ⟨r, es, ck, rfl, hmr, hee⟩ := hp
  refine GoL.step0 rfl (stA tt24 rfl rfl H (by repeat constructor) rfl rfl (by rfl) ?_); clear H; intro w H
  refine GoL.nil ?_
  exact Goes.ret (ret1 (v := .agg #[.map _]) rfl rfl (res_agg rfl tt24 (H.own (by repeat constructor)) rfl (by rfl)) H.nil ⟨rfl, ⟨r, es, ck, rfl, hmr, hee⟩⟩)

theorem zero_spec {M : RO} : Sp Tryz.prog 22 [] M [] fun r M' L' => L' = [] ∧ M' = M ∧ r = .agg #[.map none] := by
  refine Sp.enter (n := 2) Tryz.func22 rfl Tryz.ntmps22 rfl ?_
  intro E hE H
  subst hE
  refine Goes.seq (Goes.region ?_)
  refine GoL.stepS rfl rfl (r_alloc tt24 H ?_); clear H; intro b0 w hb0 H
  refine GoL.nil ?_
  refine Goes.seq (Goes.region ?_)
  refine GoL.stepS rfl rfl (bld (cells := [.map _]) tt24 pl24 pz24 rfl (by rfl) ?_)
  refine GoL.step0 rfl (stA tt24 rfl rfl H (by repeat constructor) rfl rfl (by rfl) ?_); clear H; intro w H
  refine GoL.nil ?_
  exact Goes.ret (ret1 (v := .agg #[.map _]) rfl rfl (res_agg rfl tt24 (H.own (by repeat constructor)) rfl (by rfl)) H.nil ⟨rfl, rfl, rfl⟩)

end Go.Proofs.YtlcpdkckldlceaaGreatDoor
namespace Go.Proofs.YtlcpdkckldlceaaGreatDoor
open Go.Sx Go.Nat32
attribute [local irreducible] pt sl itc itm
set_option maxRecDepth 100000

open Classical in
/-- acc and those of g's terms that have been met. -/
noncomputable def addDone (acc g : Nat → Nat → Nat) (done : List MapEntry) : Nat → Nat → Nat := fun a b => acc a b + (if ∃ e ∈ done, e.key = key a b then g a b else 0)

theorem addDone_nil (acc g : Nat → Nat → Nat) : addDone acc g [] = acc := by
  funext a b; simp [addDone]
theorem addDone_all {M : RO} {acc g : Nat → Nat → Nat} {es done : List MapEntry} (h : Ents M g es) (hp : done.Perm es) : addDone acc g done = fun a b => acc a b + g a b := by
  funext a b
  unfold addDone
  by_cases h0 : g a b = 0
  · simp [h0]
  · obtain ⟨e, he, hk⟩ := h.complete a b h0
    rw [if_pos ⟨e, hp.mem_iff.2 he, hk⟩]
theorem addDone_step {P : Program} {kt : TypeId} {acc g : Nat → Nat → Nat} {es done : List MapEntry} {ck : Nat} {e : MapEntry} {a b : Nat} (hm : MOk P kt es ck) (hd : ∀ e ∈ done, e ∈ es) (he : e ∈ es) (hne : e ∉ done) (hk : e.key = key a b) :
    upd (addDone acc g done) a b (addDone acc g done a b + g a b) = addDone acc g (done ++ [e]) := by
  have hno : ¬ ∃ e' ∈ done, e'.key = key a b := by
    rintro ⟨e', h1, h2⟩
    have := inj_of_nodup_map _ es hm.nodup e' (hd e' h1) e he (h2.trans hk.symm)
    subst this; exact hne h1
  funext c d
  by_cases hcd : c = a ∧ d = b
  · obtain ⟨rfl, rfl⟩ := hcd
    have hy : ∃ e' ∈ done ++ [e], e'.key = key c d := ⟨e, by simp, hk⟩
    simp only [upd, addDone, and_self, if_true, if_neg hno, if_pos hy]
    omega
  · simp only [upd, if_neg hcd, addDone]
    have : (∃ e' ∈ done ++ [e], e'.key = key c d) ↔ ∃ e' ∈ done, e'.key = key c d := by
      constructor
      · rintro ⟨e', h1, h2⟩
        rcases List.mem_append.1 h1 with h1 | h1
        · exact ⟨e', h1, h2⟩
        · obtain rfl := List.mem_singleton.1 h1
          exact absurd (key_inj.1 (h2.symm.trans hk)) (by simpa using hcd)
      · rintro ⟨e', h1, h2⟩; exact ⟨e', List.mem_append_left _ h1, h2⟩
    by_cases hx : ∃ e' ∈ done, e'.key = key c d
    · rw [if_pos hx, if_pos (this.2 hx)]
    · rw [if_neg hx, if_neg (fun h => hx (this.1 h))]
theorem addDone_le {acc g : Nat → Nat → Nat} {done : List MapEntry} (a b : Nat) : addDone acc g done a b ≤ acc a b + g a b := by
  unfold addDone; split <;> omega

def accF (f g : Nat → Nat → Nat) (i : Nat) : Nat → Nat → Nat := fun a b => if i = 0 then 0 else if i = 1 then f a b else f a b + g a b

theorem padd_spec {M : RO} {v u : Value} {f g : Nat → Nat → Nat} {k : Nat} (hv : PolyV M v f) (hu : PolyV M u g) (lf : ∀ a b, lim k (f a b)) (lg : ∀ a b, lim k (g a b)) (hk : k < 1000000) :
    Sp Tryz.prog 18 [v, u] M [] fun r M' L' => L' = [] ∧ PolyV M' r fun a b => f a b + g a b := by
  obtain ⟨rv, ev, cv, rfl, hrv, hev⟩ := hv
  obtain ⟨ru, eu, cu, rfl, hru, heu⟩ := hu
  refine Sp.enter (n := 33) Tryz.func18 rfl Tryz.ntmps18 rfl ?_
  intro E hE H
  subst hE
  have hel : ∀ i, i < 2 → ∃ r es ck, (#[Value.map rv, Value.map ru] : Array Value)[i]? = some (.map r) ∧ MRow Tryz.prog E.M 90 r es ck ∧ Ents E.M (if i = 0 then f else g) es := by
    intro i hi
    rcases (by omega : i = 0 ∨ i = 1) with rfl | rfl
    · exact ⟨rv, ev, cv, rfl, hrv, hev⟩
    · exact ⟨ru, eu, cu, rfl, hru, heu⟩
  have hlim : ∀ i a b, lim (k + 1) (accF f g i a b) := by
    intro i a b
    unfold accF
    split
    · exact Nat.pow_pos (by decide)
    · split
      · exact (lf a b).mono (by omega)
      · exact (lf a b).add (lg a b)
  have hlim2 : ∀ i a b, i < 2 → lim (k + 1) (accF f g i a b + (if i = 0 then f else g) a b) := by
    intro i a b hi
    rcases (by omega : i = 0 ∨ i = 1) with rfl | rfl
    · simp only [accF, if_true, Nat.zero_add]; exact (lf a b).mono (by omega)
    · simp only [accF, if_true]; exact (lf a b).add (lg a b)
  have hnext : ∀ i, i < 2 → (fun a b => accF f g i a b + (if i = 0 then f else g) a b) = accF f g (i + 1) := by
    intro i hi
    funext a b
    rcases (by omega : i = 0 ∨ i = 1) with rfl | rfl <;> simp [accF]
  refine Goes.seq (Goes.region ?_)
  refine GoL.stepS rfl rfl (bxA rfl H ?_); clear H; intro b2 w hb2 H
  refine GoL.stepS rfl rfl (bxA rfl H ?_); clear H; intro b3 w hb3 H
  refine GoL.stepS rfl rfl (r_alloc tt24 H ?_); clear H; intro b4 w hb4 H
  refine GoL.nil ?_
  refine Goes.seq (Goes.region ?_)
  refine GoL.stepS rfl rfl (r_call cc56 (made_spec) H ?_); clear H; rintro v10 M10 L10 w hM10 ⟨rfl, q, rfl, rfl⟩ H
  refine GoL.stepS rfl rfl (r_alloc tt24 H ?_); clear H; intro b5 w hb5 H
  refine GoL.step0 rfl (stA tt24 rfl rfl H (by repeat constructor) rfl rfl (by rfl) ?_); clear H; intro w H
  refine GoL.nil ?_
  refine Goes.seq (Goes.seq (Goes.region ?_))
  refine GoL.stepS rfl rfl (ldA tt24 rfl (H.own (by repeat constructor)) rfl (by rfl) ?_)
  refine GoL.stepS rfl rfl (ldA tt24 rfl (H.own (by repeat constructor)) rfl (by rfl) ?_)
  refine GoL.stepS rfl rfl (r_bsl (cells := [.map _, .map _]) tt113 tt24 rfl (by rfl) H ?_); clear H; intro b13 w hb13 H
  refine GoL.stepS rfl rfl (r_lenSlice tt113 rfl ?_)
  refine GoL.stepS rfl rfl (mvI rfl ?_)
  refine GoL.nil ?_
  refine Goes.block ?_
  refine Goes.loopS [7, 8, 9, 15, 16, 17, 18, 19, 20, 21, 22, 23, 24, 25, 26, 27, 28, 29, 30, 31] (fun (x : Nat × List MapEntry × Nat × RO) => [(15, .int .i64 (x.1 : Int))]) (fun x w => x.1 ≤ 2 ∧ MOk Tryz.prog 90 x.2.1 x.2.2.1 ∧ Ents x.2.2.2 (accF f g x.1) x.2.1 ∧ E.M.le x.2.2.2 ∧ Hp E x.2.2.2 [pt q (.map x.2.1.toArray x.2.2.1), pt b13 (.cells #[.map rv, .map ru] 24), pt b5 (.cells #[.map (some q)] 24), pt b4 (.cells #[.map none] 24)] w) (fun x => 2 - x.1) ((0 : Nat), [], 0, E.M) ⟨rfl, trivial⟩ ⟨by omega, .nil _ _ _, .nil _, RO.le.refl _, ?_⟩ ?_
  · exact (H.front (i := 2) (.tail (.tail .head))).sub (by (repeat (first | exact List.nil_sublist _ | apply List.Sublist.cons_cons | apply List.Sublist.cons)))
  clear H
  rintro ⟨i, es, ck, M1⟩ f1 w ⟨hi, hm, hes, hM1, H⟩ again
  dsimp only at hi hm hes hM1 H
  refine Goes.seq (Goes.region ?_)
  refine GoL.stepS rfl rfl (r_lss rfl rfl ?_)
  refine GoL.nil ?_
  refine Goes.seq ?_
  refine Goes.cond rfl (fun hc => ?_) (fun hc => ?_)
  · have hi2 : i < 2 := by have : (i : Int) < 2 := by simpa using hc
                           omega
    obtain ⟨r, esI, ckI, hcell, hrow, hents⟩ := hel i hi2
    refine Goes.skip (Goes.seq (Goes.block (Goes.seq (Goes.region ?_))))
    refine GoL.stepS rfl rfl (r_indexAddrN tt113 tt24 rfl rfl (by omega) ?_)
    refine GoL.stepS rfl rfl (r_load (v := .agg #[.map r]) tt24 rfl (H.own (.tail .head)) (by rw [Nat.zero_add, Nat.mul_one]; exact rd_agg1 rfl hcell) ?_)
    refine GoL.stepS rfl rfl (r_alloc tt24 H ?_); clear H; intro b7 w hb7 H
    refine GoL.step0 rfl (stA tt24 rfl rfl H (by repeat constructor) rfl rfl (by rfl) ?_); clear H; intro w H
    refine GoL.nil ?_
    refine Goes.seq (Goes.region ?_)
    first | refine GoL.stepS rfl rfl (r_fieldAddr0 fo24_0 rfl ?_) | refine GoL.stepS rfl rfl (r_fieldAddr fo24_0 rfl ?_)
    refine GoL.stepS rfl rfl (ldM tt22 rfl (H.own (by repeat constructor)) (by rfl) ?_)
    refine GoL.stepS rfl rfl (r_rangeM tt22 rfl H (hrow.mono hM1) ?_); clear H; intro b21 w hb21 H
    refine GoL.nil ?_
    refine Goes.block ?_
    refine Goes.loopS [8, 9, 22, 23, 24, 25, 26, 27, 28, 29, 30] (fun (_ : List MapEntry × List MapEntry × Nat × RO) => []) (fun y w => DoneOK esI y.1 ∧ MOk Tryz.prog 90 y.2.1 y.2.2.1 ∧ Ents y.2.2.2 (addDone (accF f g i) (if i = 0 then f else g) y.1) y.2.1 ∧ E.M.le y.2.2.2 ∧ Hp E y.2.2.2 [itm b21 r ckI y.1, pt q (.map y.2.1.toArray y.2.2.1), pt b13 (.cells #[.map rv, .map ru] 24), pt b5 (.cells #[.map (some q)] 24), pt b4 (.cells #[.map none] 24)] w) (fun y => esI.length - y.1.length) ([], es, ck, M1) trivial ⟨.nil _, hm, by rw [addDone_nil]; exact hes, hM1, H.sub (by (repeat (first | exact List.nil_sublist _ | apply List.Sublist.cons_cons | apply List.Sublist.cons)))⟩ ?_
    clear H
    rintro ⟨done, es2, ck2, M2⟩ f2 w ⟨hd, hm2, hes2, hM2, H⟩ again2
    dsimp only at hd hm2 hes2 hM2 H
    refine Goes.seq (Goes.region ?_)
    refine GoL.stepS rfl rfl (r_nextM rfl H .head (hrow.mono hM2) hd.sub hd.nodup ?_); clear H; intro o22 w ho22 H
    refine GoL.stepS rfl rfl (r_extract (v := .bool o22.isSome) rfl (by cases o22 <;> rfl) ?_)
    refine GoL.nil ?_
    refine Goes.seq ?_
    refine Goes.cond rfl (fun hs => ?_) (fun hs => ?_)
    · obtain ⟨e, rfl⟩ := Option.isSome_iff_exists.1 hs
      obtain ⟨he, hne⟩ := ho22
      obtain ⟨a, b, hkey, ha, hb, _, hval⟩ := hents.sound e he
      obtain ⟨va, vn, vc, hvv⟩ := hval.shape
      obtain ⟨ek, evv, eb⟩ := e
      dsimp only at hkey hvv hval
      subst hkey hvv
      refine Goes.skip (Goes.block (Goes.seq (Goes.region ?_)))
      refine GoL.stepS rfl rfl (r_entryM rfl H .head (hrow.mono hM2) he ?_)
      refine GoL.stepS rfl rfl (r_extract (v := .agg #[.int _ _, .int _ _]) rfl rfl ?_)
      refine GoL.stepS rfl rfl (r_extract (v := .agg #[.slice _ _ _]) rfl rfl ?_)
      refine GoL.stepS rfl rfl (r_alloc tt90 H ?_); clear H; intro b8 w hb8 H
      refine GoL.stepS rfl rfl (r_alloc tt49 H ?_); clear H; intro b9 w hb9 H
      refine GoL.step0 rfl (stA tt90 rfl rfl H (by repeat constructor) rfl rfl (by rfl) ?_); clear H; intro w H
      refine GoL.step0 rfl (stA tt49 rfl rfl H (by repeat constructor) rfl rfl (by rfl) ?_); clear H; intro w H
      refine GoL.nil ?_
      refine Goes.region ?_
      refine GoL.stepS rfl rfl (ldA tt24 rfl (H.own (by repeat constructor)) rfl (by rfl) ?_)
      refine GoL.stepS rfl rfl (ldA tt90 rfl (H.own (by repeat constructor)) rfl (by rfl) ?_)
      refine GoL.stepS rfl rfl (ldA tt49 rfl (H.own (by repeat constructor)) rfl (by rfl) ?_)
      refine GoL.stepS rfl rfl (r_call cc58 (with_spec (k := k + 1) hm2 hes2 (hval.mono hM2) ha hb ((hlim2 i a b hi2).le (addDone_le a b)) ((hlim2 i a b hi2).le (Nat.le_add_left _ _)) (by omega)) (H.front (i := 3) (by repeat constructor)) ?_); clear H; rintro v30 M30 L30 w hM30 ⟨es', ck', rfl, hm', he'⟩ H
      refine GoL.nil ?_
      refine Goes.inBlock ?_
      refine again2 (done ++ [⟨key a b, .agg #[.slice va vn vc], eb⟩], es', ck', M30) _ _ trivial (.of_strip (by kernel_rfl)) ⟨hd.push he hne, hm', ?_, hM2.trans hM30, ?_⟩ (hd.lt he hne)
      · rw [← addDone_step hrow.ok hd.sub he hne rfl]; exact he'
      · exact (H.front (i := 3) (by repeat constructor)).sub (by (repeat (first | exact List.nil_sublist _ | apply List.Sublist.cons_cons | apply List.Sublist.cons)))
    · have : o22 = none := by cases o22 <;> simp_all
      subst this
      refine Goes.exit rfl (Goes.inBlock (Goes.region ?_))
      refine GoL.stepS rfl rfl (r_addR ((i + 1 : Nat) : Int) rfl rfl (by omega) (by omega) (by omega) ?_)
      refine GoL.stepS rfl rfl (mvI rfl ?_)
      refine GoL.nil ?_
      refine again (i + 1, es2, ck2, M2) _ _ ⟨rfl, trivial⟩ (.of_strip (by kernel_rfl)) ⟨by omega, hm2, ?_, hM2, H.sub (by (repeat (first | exact List.nil_sublist _ | apply List.Sublist.cons_cons | apply List.Sublist.cons)))⟩ (by simp; omega)
      rw [addDone_all hents ho22, hnext i hi2] at hes2
      exact hes2
  · have hi2 : i = 2 := by have : ¬ (i : Int) < 2 := by simpa using hc
                           omega
    subst hi2
    refine Goes.exit rfl (Goes.seq (Goes.region ?_))
    refine GoL.stepS rfl rfl (ldA tt24 rfl (H.own (by repeat constructor)) rfl (by rfl) ?_)
    refine GoL.step0 rfl (stA tt24 rfl rfl H (by repeat constructor) rfl rfl (by rfl) ?_); clear H; intro w H
    refine GoL.nil ?_
    obtain ⟨M3, hq, hle3, H⟩ := H.freezeX (i := 0) .head
    exact Goes.ret (ret1 (v := .agg #[.map _]) rfl rfl (res_agg rfl tt24 (H.own (by repeat constructor)) rfl (by rfl)) H.nil ⟨rfl, polyOf hm (hes.mono hle3) hq⟩)

end Go.Proofs.YtlcpdkckldlceaaGreatDoor
namespace Go.Proofs.YtlcpdkckldlceaaGreatDoor
open Go.Sx Go.Nat32 Go.PolyL
attribute [local irreducible] pt sl itc itm
set_option maxRecDepth 100000

/-- The exponents of a key. -/
def kiv : Value → Nat
  | .int _ a => a.toNat
  | _ => 0
def kxy (v : Value) : Nat × Nat := (kiv (v.cells.toList.getD 0 undef), kiv (v.cells.toList.getD 1 undef))
theorem kxy_key (a b : Nat) : kxy (key a b) = (a, b) := by
  show (Int.toNat (a : Int), Int.toNat (b : Int)) = (a, b)
  rw [Int.toNat_natCast, Int.toNat_natCast]
def ex (e : MapEntry) : Nat × Nat := kxy e.key

theorem Ents.ex_box {M : RO} {f : Nat → Nat → Nat} {es : List MapEntry} (h : Ents M f es) {e : MapEntry} (he : e ∈ es) : ex e ∈ box ∧ e.key = key (ex e).1 (ex e).2 := by
  obtain ⟨a, b, h1, h2, h3, _⟩ := h.sound e he
  unfold ex
  rw [h1, kxy_key]
  exact ⟨mem_box.2 ⟨h2, h3⟩, rfl⟩
theorem Ents.ex_nodup {P : Program} {kt : TypeId} {M : RO} {f : Nat → Nat → Nat} {es : List MapEntry} {ck : Nat} (h : Ents M f es) (hm : MOk P kt es ck) : (es.map ex).Nodup := by
  have h1 := hm.nodup
  have h2 : es.map (·.key) = (es.map ex).map fun k => key k.1 k.2 := by
    rw [List.map_map]
    exact List.map_congr_left fun e he => (h.ex_box he).2
  rw [h2] at h1
  exact nodup_of_map _ _ h1
theorem Ents.sum {P : Program} {kt : TypeId} {M : RO} {f : Nat → Nat → Nat} {es : List MapEntry} {ck : Nat} (h : Ents M f es) (hm : MOk P kt es ck) {F : Nat × Nat → Nat} (hF : ∀ k, f k.1 k.2 = 0 → F k = 0) : sumL es (fun e => F (ex e)) = sumL box F := by
  refine sum_keys (h.ex_nodup hm) (fun e he => (h.ex_box he).1) fun k hk => ?_
  have h0 : f k.1 k.2 ≠ 0 := fun h0 => hk (hF k h0)
  obtain ⟨e, he, hke⟩ := h.complete _ _ h0
  exact ⟨e, he, by unfold ex; rw [hke, kxy_key]⟩
theorem Ents.length {P : Program} {kt : TypeId} {M : RO} {f : Nat → Nat → Nat} {es : List MapEntry} {ck : Nat} (h : Ents M f es) (hm : MOk P kt es ck) : es.length ≤ 2049 * 2049 := by
  have := len_le_of_sub (es.map ex) box (h.ex_nodup hm) fun k hk => by
    obtain ⟨e, he, rfl⟩ := List.mem_map.1 hk
    exact (h.ex_box he).1
  rw [length_box] at this
  simpa using this

/-- One pair's part in the product. -/
def pr (f g : Nat → Nat → Nat) (a b : Nat) (s t : Nat × Nat) : Nat := if s.1 + t.1 = a ∧ s.2 + t.2 = b then f s.1 s.2 * g t.1 t.2 else 0
/-- The product where D of the left's terms are through and of e's those with D2. -/
def part (f g : Nat → Nat → Nat) (esg D : List MapEntry) (s : Nat × Nat) (D2 : List MapEntry) : Nat → Nat → Nat := fun a b =>
  if a ≤ 2048 ∧ b ≤ 2048 then sumL D (fun e => sumL esg fun e2 => pr f g a b (ex e) (ex e2)) + sumL D2 (fun e2 => pr f g a b s (ex e2)) else 0

theorem part_nil (f g : Nat → Nat → Nat) (esg : List MapEntry) (s : Nat × Nat) : part f g esg [] s [] = fun _ _ => 0 := by
  funext a b; simp [part, sumL]
theorem part_next (f g : Nat → Nat → Nat) (esg D : List MapEntry) {e : MapEntry} {D2 : List MapEntry} (s : Nat × Nat) (h : D2.Perm esg) : part f g esg D (ex e) D2 = part f g esg (D ++ [e]) s [] := by
  funext a b
  unfold part
  by_cases hab : a ≤ 2048 ∧ b ≤ 2048
  · rw [if_pos hab, if_pos hab, sumL_snoc, sumL_perm h, sumL_nil]; omega
  · rw [if_neg hab, if_neg hab]
theorem part_step (f g : Nat → Nat → Nat) (esg D D2 : List MapEntry) (s : Nat × Nat) (e2 : MapEntry) (h1 : s.1 + (ex e2).1 ≤ 2048) (h2 : s.2 + (ex e2).2 ≤ 2048) :
    upd (part f g esg D s D2) (s.1 + (ex e2).1) (s.2 + (ex e2).2) (part f g esg D s D2 (s.1 + (ex e2).1) (s.2 + (ex e2).2) + f s.1 s.2 * g (ex e2).1 (ex e2).2) = part f g esg D s (D2 ++ [e2]) := by
  funext a b
  unfold upd
  by_cases hab : a = s.1 + (ex e2).1 ∧ b = s.2 + (ex e2).2
  · obtain ⟨rfl, rfl⟩ := hab
    rw [if_pos ⟨rfl, rfl⟩]
    unfold part
    rw [if_pos ⟨h1, h2⟩, if_pos ⟨h1, h2⟩, sumL_snoc]
    have : pr f g (s.1 + (ex e2).1) (s.2 + (ex e2).2) s (ex e2) = f s.1 s.2 * g (ex e2).1 (ex e2).2 := by simp [pr]
    rw [this]; omega
  · rw [if_neg hab]
    unfold part
    have : pr f g a b s (ex e2) = 0 := by
      unfold pr; rw [if_neg]; rintro ⟨rfl, rfl⟩; exact hab ⟨rfl, rfl⟩
    rw [sumL_snoc, this]; simp
theorem part_skip (f g : Nat → Nat → Nat) (esg D D2 : List MapEntry) (s : Nat × Nat) (e2 : MapEntry) (h : ¬ (s.1 + (ex e2).1 ≤ 2048 ∧ s.2 + (ex e2).2 ≤ 2048)) : part f g esg D s D2 = part f g esg D s (D2 ++ [e2]) := by
  funext a b
  unfold part
  by_cases hab : a ≤ 2048 ∧ b ≤ 2048
  · have : pr f g a b s (ex e2) = 0 := by
      unfold pr; rw [if_neg]; rintro ⟨rfl, rfl⟩; exact h hab
    rw [if_pos hab, if_pos hab, sumL_snoc, this]; omega
  · rw [if_neg hab, if_neg hab]
theorem part_all {M : RO} {f g : Nat → Nat → Nat} {ef eg D : List MapEntry} {cf cg : Nat} (hf : Ents M f ef) (hg : Ents M g eg) (mf : MOk Tryz.prog 90 ef cf) (mg : MOk Tryz.prog 90 eg cg) (h : D.Perm ef) (s : Nat × Nat) : part f g eg D s [] = conv f g := by
  funext a b
  unfold part conv
  by_cases hab : a ≤ 2048 ∧ b ≤ 2048
  · rw [if_pos hab, if_pos hab, sumL_nil, Nat.add_zero, sumL_perm h]
    have e1 : ∀ s : Nat × Nat, (sumL eg fun e2 => pr f g a b s (ex e2)) = sumL box fun t => pr f g a b s t := fun s => hg.sum mg (F := fun t => pr f g a b s t) fun k hk => by simp [pr, hk]
    have e2 : (sumL ef fun e => sumL eg fun e2 => pr f g a b (ex e) (ex e2)) = sumL ef fun e => (fun s => sumL box fun t => pr f g a b s t) (ex e) := sumL_congr fun e _ => e1 _
    rw [e2, hf.sum mf (F := fun s => sumL box fun t => pr f g a b s t) fun k hk => sumL_zero fun t _ => by simp [pr, hk]]
    rfl
  · rw [if_neg hab, if_neg hab]
theorem pr_le {f g : Nat → Nat → Nat} {c : Nat} (hc : ∀ s t : Nat × Nat, f s.1 s.2 * g t.1 t.2 ≤ c) (a b : Nat) (s t : Nat × Nat) : pr f g a b s t ≤ c := by
  unfold pr; split
  · exact hc s t
  · exact Nat.zero_le _
theorem part_le {f g : Nat → Nat → Nat} {c n : Nat} (hc : ∀ s t : Nat × Nat, f s.1 s.2 * g t.1 t.2 ≤ c) {esg D D2 : List MapEntry} (h1 : D.length ≤ n) (h2 : esg.length ≤ n) (h3 : D2.length ≤ n) (s : Nat × Nat) (a b : Nat) : part f g esg D s D2 a b ≤ n * (n * c) + n * c := by
  unfold part
  split
  · have p1 : sumL D (fun e => sumL esg fun e2 => pr f g a b (ex e) (ex e2)) ≤ D.length * (n * c) := sumL_le fun e _ => Nat.le_trans (sumL_le fun e2 _ => pr_le hc a b _ _) (Nat.mul_le_mul_right _ h2)
    have p2 : sumL D2 (fun e2 => pr f g a b s (ex e2)) ≤ D2.length * c := sumL_le fun e2 _ => pr_le hc a b _ _
    have p3 : D.length * (n * c) ≤ n * (n * c) := Nat.mul_le_mul_right _ h1
    have p4 : D2.length * c ≤ n * c := Nat.mul_le_mul_right _ h3
    omega
  · exact Nat.zero_le _
theorem part_lim {f g : Nat → Nat → Nat} {k : Nat} (lf : ∀ a b, lim k (f a b)) (lg : ∀ a b, lim k (g a b)) {esg D D2 : List MapEntry} (h1 : D.length ≤ 2049 * 2049) (h2 : esg.length ≤ 2049 * 2049) (h3 : D2.length ≤ 2049 * 2049) (s : Nat × Nat) (a b : Nat) : lim (2 * k + 2) (part f g esg D s D2 a b) := by
  have hc : ∀ s t : Nat × Nat, f s.1 s.2 * g t.1 t.2 ≤ 4294967296 ^ (2 * k) := by
    intro s t
    have := (lf s.1 s.2).mul (lg t.1 t.2)
    rw [← Nat.two_mul] at this
    exact Nat.le_of_lt this
  have := part_le hc h1 h2 h3 s a b
  unfold lim
  rw [Nat.pow_add]
  refine Nat.lt_of_le_of_lt this ?_
  have h0 : 0 < 4294967296 ^ (2 * k) := Nat.pow_pos (by decide)
  generalize 4294967296 ^ (2 * k) = c at *
  rw [← Nat.mul_assoc, ← Nat.add_mul, Nat.mul_comm]
  exact Nat.mul_lt_mul_of_pos_left (by decide) h0

theorem ex_mk {a b n : Nat} {v : Value} : ex ⟨key a b, v, n⟩ = (a, b) := kxy_key a b

theorem pmul_spec {M : RO} {v u : Value} {f g : Nat → Nat → Nat} {k : Nat} (hv : PolyV M v f) (hu : PolyV M u g) (lf : ∀ a b, lim k (f a b)) (lg : ∀ a b, lim k (g a b)) (hk : k ≤ 400000) :
    Sp Tryz.prog 20 [v, u] M [] fun r M' L' => L' = [] ∧ PolyV M' r (conv f g) := by
  obtain ⟨rv, ev, cv, rfl, hrv, hev⟩ := hv
  obtain ⟨ru, eu, cu, rfl, hru, heu⟩ := hu
  refine Sp.enter (n := 54) Tryz.func20 rfl Tryz.ntmps20 rfl ?_
  intro E hE H
  subst hE
  have nv := hev.length hrv.ok
  have nu := heu.length hru.ok
  refine Goes.seq (Goes.region ?_)
  refine GoL.stepS rfl rfl (bxA rfl H ?_); clear H; intro b2 w hb2 H
  refine GoL.stepS rfl rfl (bxA rfl H ?_); clear H; intro b3 w hb3 H
  refine GoL.stepS rfl rfl (r_alloc tt24 H ?_); clear H; intro b4 w hb4 H
  refine GoL.nil ?_
  refine Goes.seq (Goes.region ?_)
  refine GoL.stepS rfl rfl (r_call cc56 (made_spec) H ?_); clear H; rintro v11 M11 L11 w hM11 ⟨rfl, q, rfl, rfl⟩ H
  refine GoL.stepS rfl rfl (r_alloc tt24 H ?_); clear H; intro b5 w hb5 H
  refine GoL.step0 rfl (stA tt24 rfl rfl H (by repeat constructor) rfl rfl (by rfl) ?_); clear H; intro w H
  refine GoL.nil ?_
  refine Goes.seq (Goes.seq (Goes.region ?_))
  first | refine GoL.stepS rfl rfl (r_fieldAddr0 fo24_0 rfl ?_) | refine GoL.stepS rfl rfl (r_fieldAddr fo24_0 rfl ?_)
  refine GoL.stepS rfl rfl (ldM tt22 rfl (H.own (by repeat constructor)) (by rfl) ?_)
  refine GoL.stepS rfl rfl (r_rangeM tt22 rfl H hrv ?_); clear H; intro b14 w hb14 H
  refine GoL.nil ?_
  refine Goes.block ?_
  refine Goes.loopS (6 :: 7 :: 8 :: 9 :: 10 :: 15 :: 16 :: 17 :: 18 :: 19 :: 20 :: 21 :: 22 :: 23 :: 24 :: 25 :: 26 :: 27 :: 28 :: 29 :: 30 :: 31 :: 32 :: 33 :: 34 :: 35 :: 36 :: 37 :: 38 :: 39 :: 40 :: 41 :: 42 :: 43 :: 44 :: 45 :: 46 :: 47 :: 48 :: 49 :: 50 :: 51 :: 52 :: []) (fun (_ : List MapEntry × List MapEntry × Nat × RO) => []) (fun x w => DoneOK ev x.1 ∧ MOk Tryz.prog 90 x.2.1 x.2.2.1 ∧ Ents x.2.2.2 (part f g eu x.1 (0, 0) []) x.2.1 ∧ E.M.le x.2.2.2 ∧ Hp E x.2.2.2 [pt q (.map x.2.1.toArray x.2.2.1), itm b14 rv cv x.1, pt b5 (.cells #[.map (some q)] 24), pt b4 (.cells #[.map none] 24), pt b3 (.cells #[.map ru] 24)] w) (fun x => ev.length - x.1.length) ([], [], 0, E.M) trivial ⟨.nil _, .nil _ _ _, by rw [part_nil]; exact .nil _, RO.le.refl _, ?_⟩ ?_
  · exact (H.front (i := 2) (by repeat constructor)).sub (by (repeat (first | exact List.nil_sublist _ | apply List.Sublist.cons_cons | apply List.Sublist.cons)))
  clear H
  rintro ⟨D, es, ck, M1⟩ f1 w ⟨hd, hm, hes, hM1, H⟩ again
  dsimp only at hd hm hes hM1 H
  refine Goes.seq (Goes.region ?_)
  refine GoL.stepS rfl rfl (r_nextM rfl H (.tail .head) (hrv.mono hM1) hd.sub hd.nodup ?_); clear H; intro o15 w ho15 H
  refine GoL.stepS rfl rfl (r_extract (v := .bool o15.isSome) rfl (by cases o15 <;> rfl) ?_)
  refine GoL.nil ?_
  refine Goes.seq ?_
  refine Goes.cond rfl (fun hs => ?_) (fun hs => ?_)
  · obtain ⟨e, rfl⟩ := Option.isSome_iff_exists.1 hs
    obtain ⟨he, hne⟩ := ho15
    obtain ⟨a, b, hkey, ha, hb, _, hval⟩ := hev.sound e he
    obtain ⟨va, vn, vc, hvv⟩ := hval.shape
    obtain ⟨ek, evv, eb⟩ := e
    dsimp only at hkey hvv hval
    subst hkey hvv
    refine Goes.skip (Goes.block (Goes.seq (Goes.region ?_)))
    refine GoL.stepS rfl rfl (r_entryM rfl H (.tail .head) (hrv.mono hM1) he ?_)
    refine GoL.stepS rfl rfl (r_extract (v := .agg #[.int _ _, .int _ _]) rfl rfl ?_)
    refine GoL.stepS rfl rfl (r_extract (v := .agg #[.slice _ _ _]) rfl rfl ?_)
    refine GoL.stepS rfl rfl (r_alloc tt90 H ?_); clear H; intro b6 w hb6 H
    refine GoL.stepS rfl rfl (r_alloc tt49 H ?_); clear H; intro b7 w hb7 H
    refine GoL.step0 rfl (stA tt90 rfl rfl H (by repeat constructor) rfl rfl (by rfl) ?_); clear H; intro w H
    refine GoL.step0 rfl (stA tt49 rfl rfl H (by repeat constructor) rfl rfl (by rfl) ?_); clear H; intro w H
    refine GoL.nil ?_
    refine Goes.seq (Goes.region ?_)
    first | refine GoL.stepS rfl rfl (r_fieldAddr0 fo24_0 rfl ?_) | refine GoL.stepS rfl rfl (r_fieldAddr fo24_0 rfl ?_)
    refine GoL.stepS rfl rfl (ldM tt22 rfl (H.own (by repeat constructor)) (by rfl) ?_)
    refine GoL.stepS rfl rfl (r_rangeM tt22 rfl H (hru.mono hM1) ?_); clear H; intro b22 w hb22 H
    refine GoL.nil ?_
    refine Goes.block ?_
    have hes0 : Ents M1 (part f g eu D (a, b) []) es := by
      have : part f g eu D (a, b) [] = part f g eu D (0, 0) [] := rfl
      rw [this]; exact hes
    refine Goes.loopS (8 :: 9 :: 10 :: 23 :: 24 :: 25 :: 26 :: 27 :: 28 :: 29 :: 30 :: 31 :: 32 :: 33 :: 34 :: 35 :: 36 :: 37 :: 38 :: 39 :: 40 :: 41 :: 42 :: 43 :: 44 :: 45 :: 46 :: 47 :: 48 :: 49 :: 50 :: 51 :: 52 :: []) (fun (_ : List MapEntry × List MapEntry × Nat × RO) => []) (fun y w => DoneOK eu y.1 ∧ MOk Tryz.prog 90 y.2.1 y.2.2.1 ∧ Ents y.2.2.2 (part f g eu D (a, b) y.1) y.2.1 ∧ E.M.le y.2.2.2 ∧ Hp E y.2.2.2 [pt q (.map y.2.1.toArray y.2.2.1), itm b22 ru cu y.1, pt b7 (.cells #[.slice va vn vc] 49), pt b6 (.cells #[.int .i64 (a : Int), .int .i64 (b : Int)] 90), itm b14 rv cv (D ++ [⟨key a b, .agg #[.slice va vn vc], eb⟩]), pt b5 (.cells #[.map (some q)] 24), pt b4 (.cells #[.map none] 24), pt b3 (.cells #[.map ru] 24)] w) (fun y => eu.length - y.1.length) ([], es, ck, M1) trivial ⟨.nil _, hm, hes0, hM1, (H.front (i := 3) (by repeat constructor)).sub (by (repeat (first | exact List.nil_sublist _ | apply List.Sublist.cons_cons | apply List.Sublist.cons)))⟩ ?_
    clear H
    rintro ⟨D2, es2, ck2, M2⟩ f2 w ⟨hd2, hm2, hes2, hM2, H⟩ again2
    dsimp only at hd2 hm2 hes2 hM2 H
    refine Goes.seq (Goes.region ?_)
    refine GoL.stepS rfl rfl (r_nextM rfl H (.tail .head) (hru.mono hM2) hd2.sub hd2.nodup ?_); clear H; intro o23 w ho23 H
    refine GoL.stepS rfl rfl (r_extract (v := .bool o23.isSome) rfl (by cases o23 <;> rfl) ?_)
    refine GoL.nil ?_
    refine Goes.seq ?_
    refine Goes.cond rfl (fun hs2 => ?_) (fun hs2 => ?_)
    · obtain ⟨e2, rfl⟩ := Option.isSome_iff_exists.1 hs2
      obtain ⟨he2, hne2⟩ := ho23
      obtain ⟨a2, b2, hkey2, ha2, hb2, _, hval2⟩ := heu.sound e2 he2
      obtain ⟨ua, un, uc, huu⟩ := hval2.shape
      obtain ⟨ek2, evv2, eb2⟩ := e2
      dsimp only at hkey2 huu hval2
      subst hkey2 huu
      have hlim := part_lim lf lg (Nat.le_trans hd.le nv) nu (Nat.le_trans hd2.le nu) (a, b)
      refine Goes.skip (Goes.block (Goes.seq (Goes.region ?_)))
      refine GoL.stepS rfl rfl (r_entryM rfl H (.tail .head) (hru.mono hM2) he2 ?_)
      refine GoL.stepS rfl rfl (r_extract (v := .agg #[.int _ _, .int _ _]) rfl rfl ?_)
      refine GoL.stepS rfl rfl (r_extract (v := .agg #[.slice _ _ _]) rfl rfl ?_)
      refine GoL.stepS rfl rfl (r_alloc tt90 H ?_); clear H; intro b8 w hb8 H
      refine GoL.stepS rfl rfl (r_alloc tt49 H ?_); clear H; intro b9 w hb9 H
      refine GoL.step0 rfl (stA tt90 rfl rfl H (by repeat constructor) rfl rfl (by rfl) ?_); clear H; intro w H
      refine GoL.step0 rfl (stA tt49 rfl rfl H (by repeat constructor) rfl rfl (by rfl) ?_); clear H; intro w H
      refine GoL.nil ?_
      refine Goes.seq (Goes.region ?_)
      first | refine GoL.stepS rfl rfl (r_fieldAddr0 fo90_0 rfl ?_) | refine GoL.stepS rfl rfl (r_fieldAddr fo90_0 rfl ?_)
      refine GoL.stepS rfl rfl (ldI tt3 rfl (H.own (by repeat constructor)) (by rfl) ?_)
      first | refine GoL.stepS rfl rfl (r_fieldAddr0 fo90_0 rfl ?_) | refine GoL.stepS rfl rfl (r_fieldAddr fo90_0 rfl ?_)
      refine GoL.stepS rfl rfl (ldI tt3 rfl (H.own (by repeat constructor)) (by rfl) ?_)
      refine GoL.stepS rfl rfl (r_addR ((a + a2 : Nat) : Int) rfl rfl (by first | omega | (dsimp only; omega)) (by first | omega | (dsimp only; omega)) (by first | omega | (dsimp only; omega)) ?_)
      first | refine GoL.stepS rfl rfl (r_fieldAddr0 fo90_1 rfl ?_) | refine GoL.stepS rfl rfl (r_fieldAddr fo90_1 rfl ?_)
      refine GoL.stepS rfl rfl (ldI tt3 rfl (H.own (by repeat constructor)) (by rfl) ?_)
      first | refine GoL.stepS rfl rfl (r_fieldAddr0 fo90_1 rfl ?_) | refine GoL.stepS rfl rfl (r_fieldAddr fo90_1 rfl ?_)
      refine GoL.stepS rfl rfl (ldI tt3 rfl (H.own (by repeat constructor)) (by rfl) ?_)
      refine GoL.stepS rfl rfl (r_addR ((b + b2 : Nat) : Int) rfl rfl (by first | omega | (dsimp only; omega)) (by first | omega | (dsimp only; omega)) (by first | omega | (dsimp only; omega)) ?_)
      refine GoL.stepS rfl rfl (bld (cells := [.int _ _, .int _ _]) tt90 pl90 pz90 rfl (by rfl) ?_)
      refine GoL.stepS rfl rfl (r_alloc tt90 H ?_); clear H; intro b10 w hb10 H
      refine GoL.step0 rfl (stA tt90 rfl rfl H (by repeat constructor) rfl rfl (by rfl) ?_); clear H; intro w H
      refine GoL.nil ?_
      refine Goes.seq (Goes.region ?_)
      first | refine GoL.stepS rfl rfl (r_fieldAddr0 fo90_0 rfl ?_) | refine GoL.stepS rfl rfl (r_fieldAddr fo90_0 rfl ?_)
      refine GoL.stepS rfl rfl (ldI tt3 rfl (H.own (by repeat constructor)) (by rfl) ?_)
      by_cases hA : a + a2 ≤ 2048
      · refine GoL.stepS rfl rfl (r_leqT rfl rfl (by first | omega | (dsimp only; omega)) ?_)
        refine GoL.stepS rfl rfl (mvB rfl ?_)
        first | refine GoL.stepYS rfl rfl rfl (r_fieldAddr0 fo90_1 rfl ?_) | refine GoL.stepYS rfl rfl rfl (r_fieldAddr fo90_1 rfl ?_)
        refine GoL.stepYS rfl rfl rfl (ldI tt3 rfl (H.own (by repeat constructor)) (by rfl) ?_)
        refine GoL.stepYS rfl rfl rfl (r_leq rfl rfl ?_)
        refine GoL.stepS rfl rfl (r_pickT (v := .bool _) rfl rfl ?_)
        refine GoL.nil ?_
        refine Goes.cond rfl (fun hB => ?_) (fun hB => ?_)
        · have hB' : b + b2 ≤ 2048 := by have : ((b + b2 : Nat) : Int) ≤ 2048 := of_decide_eq_true hB
                                         omega
          refine Goes.regionD0 mixed (by kernel_rfl) 7 H ?_
          refine Ver.read (v := .agg _) 0 rfl (by kernel_rfl) (fun M' L' w hM H => ldA tt24 rfl (H.own (by repeat constructor)) rfl (by rfl) ⟨rfl, rfl⟩) ?_
          refine Ver.read (v := .agg _) 1 rfl (by kernel_rfl) (fun M' L' w hM H => ldA tt90 rfl (H.own (by repeat constructor)) rfl (by rfl) ⟨rfl, rfl⟩) ?_
          refine Ver.read (v := .agg _) 2 rfl (by kernel_rfl) (fun M' L' w hM H => ldA tt49 rfl (H.own (by repeat constructor)) rfl (by rfl) ⟨rfl, rfl⟩) ?_
          refine Ver.read (v := .agg _) 3 rfl (by kernel_rfl) (fun M' L' w hM H => ldA tt49 rfl (H.own (by repeat constructor)) rfl (by rfl) ⟨rfl, rfl⟩) ?_
          refine Ver.next0 4 (by kernel_rfl) rfl (by kernel_rfl) ?_
          clear H; intro w H
          refine r_call cc33 (mulN (hval.mono hM2) (hval2.mono hM2) (lf a b) (lg a2 b2) (by first | omega | (dsimp only; omega)) (by first | omega | (dsimp only; omega))) H ?_
          clear H; rintro v51 M51 L51 w hM51 ⟨rfl, hv51⟩ H
          refine ⟨_, hM51, H, ?_⟩
          refine Ver.bar0 5 (by kernel_rfl) rfl (by kernel_rfl) ?_
          clear H; intro w H
          refine r_call cc58 (with_spec (k := 2 * k + 2) hm2 (hes2.mono hM51) hv51 hA hB' (hlim _ _) (((lf a b).mul (lg a2 b2)).mono (by first | omega | (dsimp only; omega))) (by first | omega | (dsimp only; omega))) (H.front (i := 3) (by repeat constructor)) ?_
          clear H; rintro v52 M52 L52 w hM52 ⟨es', ck', rfl, hm', he'⟩ H
          refine ⟨_, _, hM52, H, ?_⟩
          refine Ver.fin0 (by kernel_rfl) ?_
          clear H; intro w H
          refine Goes.inBlock ?_
          refine again2 (D2 ++ [⟨key a2 b2, .agg #[.slice ua un uc], eb2⟩], es', ck', M52) _ _ trivial (.of_strip (by kernel_rfl)) ⟨hd2.push he2 hne2, hm', ?_, hM2.trans (hM51.trans hM52), ?_⟩ (hd2.lt he2 hne2)
          · have hps := part_step f g eu D D2 (a, b) ⟨key a2 b2, .agg #[.slice ua un uc], eb2⟩ (by rw [ex_mk]; exact hA) (by rw [ex_mk]; exact hB')
            rw [ex_mk] at hps
            rw [← hps]; exact he'
          · exact Hp.sub H (by (repeat (first | exact List.nil_sublist _ | apply List.Sublist.cons_cons | apply List.Sublist.cons)))
        · have hB' : ¬ b + b2 ≤ 2048 := by have : ¬ ((b + b2 : Nat) : Int) ≤ 2048 := of_decide_eq_false hB
                                           omega
          refine Goes.skip (Goes.inBlock ?_)
          refine again2 (D2 ++ [⟨key a2 b2, .agg #[.slice ua un uc], eb2⟩], es2, ck2, M2) _ _ trivial (.of_strip (by kernel_rfl)) ⟨hd2.push he2 hne2, hm2, ?_, hM2, H.sub (by (repeat (first | exact List.nil_sublist _ | apply List.Sublist.cons_cons | apply List.Sublist.cons)))⟩ (hd2.lt he2 hne2)
          rw [← part_skip f g eu D D2 (a, b) ⟨key a2 b2, .agg #[.slice ua un uc], eb2⟩ (by rw [ex_mk]; simp only; omega)]
          exact hes2
      · refine GoL.stepS rfl rfl (r_leqF rfl rfl (by first | omega | (dsimp only; omega)) ?_)
        refine GoL.stepS rfl rfl (mvB rfl ?_)
        refine GoL.stepNS rfl rfl rfl ?_
        refine GoL.stepNS rfl rfl rfl ?_
        refine GoL.stepNS rfl rfl rfl ?_
        refine GoL.stepS rfl rfl (r_pickF (v := .bool _) rfl rfl ?_)
        refine GoL.nil ?_
        refine Goes.condF rfl (rfl) ?_
        refine Goes.skip (Goes.inBlock ?_)
        refine again2 (D2 ++ [⟨key a2 b2, .agg #[.slice ua un uc], eb2⟩], es2, ck2, M2) _ _ trivial (.of_strip (by kernel_rfl)) ⟨hd2.push he2 hne2, hm2, ?_, hM2, H.sub (by (repeat (first | exact List.nil_sublist _ | apply List.Sublist.cons_cons | apply List.Sublist.cons)))⟩ (hd2.lt he2 hne2)
        rw [← part_skip f g eu D D2 (a, b) ⟨key a2 b2, .agg #[.slice ua un uc], eb2⟩ (by rw [ex_mk]; simp only; omega)]
        exact hes2
    · have : o23 = none := by cases o23 <;> simp_all
      subst this
      refine Goes.exit rfl (Goes.inBlock ?_)
      refine again (D ++ [⟨key a b, .agg #[.slice va vn vc], eb⟩], es2, ck2, M2) _ _ trivial (.of_strip (by kernel_rfl)) ⟨hd.push he hne, hm2, ?_, hM2, ?_⟩ (hd.lt he hne)
      · have hpn := part_next f g eu D (e := ⟨key a b, .agg #[.slice va vn vc], eb⟩) (0, 0) ho23
        rw [ex_mk] at hpn
        rw [← hpn]; exact hes2
      · exact H.sub (by (repeat (first | exact List.nil_sublist _ | apply List.Sublist.cons_cons | apply List.Sublist.cons)))
  · have : o15 = none := by cases o15 <;> simp_all
    subst this
    refine Goes.exit rfl (Goes.seq (Goes.region ?_))
    refine GoL.stepS rfl rfl (ldA tt24 rfl (H.own (by repeat constructor)) rfl (by rfl) ?_)
    refine GoL.step0 rfl (stA tt24 rfl rfl H (by repeat constructor) rfl rfl (by rfl) ?_); clear H; intro w H
    refine GoL.nil ?_
    obtain ⟨M3, hq, hle3, H⟩ := H.freezeX (i := 0) .head
    rw [part_all hev heu hrv.ok hru.ok ho15] at hes
    exact Goes.ret (ret1 (v := .agg #[.map _]) rfl rfl (res_agg rfl tt24 (H.own (by repeat constructor)) rfl (by rfl)) H.nil ⟨rfl, polyOf hm (hes.mono hle3) hq⟩)

end Go.Proofs.YtlcpdkckldlceaaGreatDoor
namespace Go.Proofs.YtlcpdkckldlceaaGreatDoor
open Go.Sx Go.Nat32 Go.PolyL
attribute [local irreducible] pt sl itc itm
set_option maxRecDepth 100000
set_option linter.unusedVariables false
set_option linter.unusedSimpArgs false

theorem equal32_spec {M : RO} {a a' : Option Addr} {n n' c c' : Nat} {wa wb : List Nat} (ha : Row32 M a n c wa) (hb : Row32 M a' n' c' wb) :
    Sp Tryz.prog 80 [.slice a n c, .slice a' n' c'] M [] fun v M' L' => L' = [] ∧ M' = M ∧ v = .bool (decide (wa = wb)) := by
  refine Sp.enter (n := 26) Tryz.func80 rfl Tryz.ntmps80 rfl ?_
  intro E hE H
  subst hE
  have hla := ha.len
  have hlb := hb.len
  have bga := ha.big
  refine Goes.seq (Goes.region ?_)
  refine GoL.stepS rfl rfl (asB rfl ?_)
  refine GoL.nil ?_
  refine Goes.seq (Goes.seq (Goes.region ?_))
  refine GoL.stepS rfl rfl (mvL rfl ?_)
  refine GoL.stepS rfl rfl (r_lenSlice tt47 rfl ?_)
  refine GoL.stepS rfl rfl (mvL rfl ?_)
  refine GoL.stepS rfl rfl (r_lenSlice tt47 rfl ?_)
  refine GoL.stepS rfl rfl (r_neq rfl rfl ?_)
  refine GoL.nil ?_
  refine Goes.cond rfl (fun hne => ?_) (fun hne => ?_)
  · have hne' : n ≠ n' := by have : ((n : Int) != (n' : Int)) = true := hne
                             intro h; subst h; simp at this
    refine Goes.seq (Goes.region ?_)
    refine GoL.stepS rfl rfl (asB rfl ?_)
    refine GoL.nil ?_
    refine Goes.ret (ret1 (v := .bool _) rfl rfl rfl H.nil ⟨rfl, rfl, ?_⟩)
    have : ¬ wa = wb := by rintro rfl; omega
    rw [decide_eq_false this]
  · have hnn : n = n' := by have : ((n : Int) != (n' : Int)) = false := hne
                            simp only [bne_eq_false_iff_eq] at this; omega
    subst hnn
    refine Goes.skip (Goes.seq (Goes.seq (Goes.region ?_)))
    refine GoL.stepS rfl rfl (mvL rfl ?_)
    refine GoL.stepS rfl rfl (r_lenSlice tt47 rfl ?_)
    refine GoL.stepS rfl rfl (mvI rfl ?_)
    refine GoL.nil ?_
    refine Goes.block ?_
    refine Goes.loopS [4, 5, 13, 14, 15, 16, 17, 18, 19, 20, 21, 22, 23, 24, 25] (fun (i : Nat) => [(13, .int .i64 (i : Int))]) (fun i w => i ≤ n ∧ wa.take i = wb.take i ∧ Hp E E.M [] w) (fun i => n - i) (0 : Nat) ⟨rfl, trivial⟩ ⟨Nat.zero_le _, by simp, H⟩ ?_
    clear H
    rintro i f w ⟨hi, ht, H⟩ again
    refine Goes.seq (Goes.region ?_)
    refine GoL.stepS rfl rfl (r_lss rfl rfl ?_)
    refine GoL.nil ?_
    refine Goes.seq ?_
    refine Goes.cond rfl (fun hc => ?_) (fun hc => ?_)
    · have hi' : i < n := by simpa using hc
      obtain ⟨b1, o1, c1, e1, z1, rfl, hM1, hv1⟩ := ha.at hi'
      obtain ⟨b2, o2, c2, e2, z2, rfl, hM2, hv2⟩ := hb.at hi'
      refine Goes.skip (Goes.seq (Goes.block (Goes.seq (Goes.region ?_))))
      refine GoL.stepS rfl rfl (mvI rfl ?_)
      refine GoL.stepS rfl rfl (asI rfl ?_)
      refine GoL.nil ?_
      refine Goes.seq ?_
      refine Goes.regionD0 mixed (by kernel_rfl) 10 H ?_
      refine Ver.read (v := .slice _ _ _) 0 rfl (by kernel_rfl) (fun M' L' w hM H => mvL rfl ⟨rfl, rfl⟩) ?_
      refine Ver.read (v := .int _ _) 1 rfl (by kernel_rfl) (fun M' L' w hM H => mvI rfl ⟨rfl, rfl⟩) ?_
      refine Ver.read (v := .pointer _) 2 rfl (by kernel_rfl) (fun M' L' w hM H => r_indexAddrN tt47 tt68 rfl rfl (by first | omega | (dsimp only; omega)) ⟨rfl, rfl⟩) ?_
      refine Ver.read (v := .int _ _) 3 rfl (by kernel_rfl) (fun M' L' w hM H => ldI tt68 rfl (H.ro (hM _ _ hM1)) (by rw [Nat.mul_one]; exact hv1) ⟨rfl, rfl⟩) ?_
      refine Ver.read (v := .slice _ _ _) 4 rfl (by kernel_rfl) (fun M' L' w hM H => mvL rfl ⟨rfl, rfl⟩) ?_
      refine Ver.read (v := .int _ _) 5 rfl (by kernel_rfl) (fun M' L' w hM H => mvI rfl ⟨rfl, rfl⟩) ?_
      refine Ver.read (v := .pointer _) 6 rfl (by kernel_rfl) (fun M' L' w hM H => r_indexAddrN tt47 tt68 rfl rfl (by first | omega | (dsimp only; omega)) ⟨rfl, rfl⟩) ?_
      refine Ver.read (v := .int _ _) 7 rfl (by kernel_rfl) (fun M' L' w hM H => ldI tt68 rfl (H.ro (hM _ _ hM2)) (by rw [Nat.mul_one]; exact hv2) ⟨rfl, rfl⟩) ?_
      refine Ver.read (v := .bool _) 8 rfl (by kernel_rfl) (fun M' L' w hM H => r_neq rfl rfl ⟨rfl, rfl⟩) ?_
      refine Ver.fin0 (by kernel_rfl) ?_
      clear H; intro w H
      have htk : wa.take (i + 1) = wa.take i ++ [wa.getD i 0] := take_snoc (by omega)
      have htk' : wb.take (i + 1) = wb.take i ++ [wb.getD i 0] := take_snoc (by omega)
      refine Goes.cond rfl (fun hd => ?_) (fun hd => ?_)
      · have hd' : wa.getD i 0 ≠ wb.getD i 0 := by have : (((wa.getD i 0 : Nat) : Int) != ((wb.getD i 0 : Nat) : Int)) = true := hd
                                                   intro h; rw [h] at this; simp at this
        refine Goes.seq (Goes.region ?_)
        refine GoL.stepS rfl rfl (asB rfl ?_)
        refine GoL.nil ?_
        refine Goes.ret (ret1 (v := .bool _) rfl rfl rfl H.nil ⟨rfl, rfl, ?_⟩)
        have : ¬ wa = wb := by rintro rfl; exact hd' rfl
        rw [decide_eq_false this]
      · have hd' : wa.getD i 0 = wb.getD i 0 := by have : (((wa.getD i 0 : Nat) : Int) != ((wb.getD i 0 : Nat) : Int)) = false := hd
                                                   simp only [bne_eq_false_iff_eq] at this; omega
        refine Goes.skip (Goes.inBlock (Goes.region ?_))
        refine GoL.stepS rfl rfl (r_addR ((i + 1 : Nat) : Int) rfl rfl (by first | omega | (dsimp only; omega)) (by first | omega | (dsimp only; omega)) (by first | omega | (dsimp only; omega)) ?_)
        refine GoL.stepS rfl rfl (mvI rfl ?_)
        refine GoL.nil ?_
        exact again (i + 1) _ _ ⟨rfl, trivial⟩ (.of_strip (by kernel_rfl)) ⟨by omega, by rw [htk, htk', ht, hd'], H⟩ (by omega)
    · have hi' : i = n := by have : ¬ i < n := by simpa using hc
                             omega
      subst hi'
      refine Goes.exit rfl (Goes.seq (Goes.region ?_))
      refine GoL.stepS rfl rfl (asB rfl ?_)
      refine GoL.nil ?_
      refine Goes.ret (ret1 (v := .bool _) rfl rfl rfl H.nil ⟨rfl, rfl, ?_⟩)
      rw [List.take_of_length_le (by omega), List.take_of_length_le (by omega)] at ht
      rw [decide_eq_true ht]

theorem equal_spec {M : RO} {a a' : Option Addr} {n n' c c' : Nat} {wa wb : List Nat} (ha : Row32 M a n c wa) (hb : Row32 M a' n' c' wb) :
    Sp Tryz.prog 31 [.agg #[.slice a n c], .agg #[.slice a' n' c']] M [] fun v M' L' => L' = [] ∧ M' = M ∧ v = .bool (decide (wa = wb)) := by
  refine Sp.enter (n := 10) Tryz.func31 rfl Tryz.ntmps31 rfl ?_
  intro E hE H
  subst hE
  refine Goes.seq (Goes.region ?_)
  refine GoL.stepS rfl rfl (bxA rfl H ?_); clear H; intro b2 w hb2 H
  refine GoL.stepS rfl rfl (bxA rfl H ?_); clear H; intro b3 w hb3 H
  refine GoL.stepS rfl rfl (asB rfl ?_)
  refine GoL.nil ?_
  refine Goes.seq (Goes.region ?_)
  first | refine GoL.stepS rfl rfl (r_fieldAddr0 fo49_0 rfl ?_) | refine GoL.stepS rfl rfl (r_fieldAddr fo49_0 rfl ?_)
  refine GoL.stepS rfl rfl (ldL tt47 rfl (H.own (by repeat constructor)) (by rfl) ?_)
  first | refine GoL.stepS rfl rfl (r_fieldAddr0 fo49_0 rfl ?_) | refine GoL.stepS rfl rfl (r_fieldAddr fo49_0 rfl ?_)
  refine GoL.stepS rfl rfl (ldL tt47 rfl (H.own (by repeat constructor)) (by rfl) ?_)
  refine GoL.stepS rfl rfl (r_call cc80 (equal32_spec ha hb) H ?_); clear H; rintro v9 M9 L9 w hM9 ⟨rfl, rfl, rfl⟩ H
  refine GoL.stepS rfl rfl (asB rfl ?_)
  refine GoL.nil ?_
  exact Goes.ret (ret1 (v := .bool _) rfl rfl rfl H.nil ⟨rfl, rfl, rfl⟩)

theorem equalN {M : RO} {v u : Value} {x y : Nat} (hx : NatV M v x) (hy : NatV M u y) :
    Sp Tryz.prog 31 [v, u] M [] fun r M' L' => L' = [] ∧ M' = M ∧ r = .bool (decide (x = y)) := by
  obtain ⟨a, n, c, wa, rfl, ha, ca, rfl⟩ := hx
  obtain ⟨a', n', c', wb, rfl, hb, cb, rfl⟩ := hy
  refine (equal_spec ha hb).mono ?_
  rintro r M' L' _ ⟨rfl, rfl, rfl⟩
  refine ⟨rfl, rfl, ?_⟩
  congr 1
  rw [decide_eq_decide]
  exact ⟨fun h => by rw [h], fun h => canon_inj ca cb ha.small hb.small h⟩

theorem numTerms_spec {M : RO} {v : Value} {f : Nat → Nat → Nat} (hv : PolyV M v f) : Sp Tryz.prog 41 [v] M [] fun r M' L' => L' = [] ∧ M' = M ∧ r = .int .i64 ((sumL box fun k => if f k.1 k.2 = 0 then 0 else 1 : Nat) : Int) := by
  obtain ⟨rv, ev, cv, rfl, hrv, hev⟩ := hv
  refine Sp.enter (n := 6) Tryz.func41 rfl Tryz.ntmps41 rfl ?_
  intro E hE H
  subst hE
  refine Goes.seq (Goes.region ?_)
  refine GoL.stepS rfl rfl (bxA rfl H ?_); clear H; intro b1 w hb1 H
  refine GoL.stepS rfl rfl (asI rfl ?_)
  refine GoL.nil ?_
  refine Goes.seq (Goes.region ?_)
  first | refine GoL.stepS rfl rfl (r_fieldAddr0 fo24_0 rfl ?_) | refine GoL.stepS rfl rfl (r_fieldAddr fo24_0 rfl ?_)
  refine GoL.stepS rfl rfl (ldM tt22 rfl (H.own (by repeat constructor)) (by rfl) ?_)
  refine GoL.stepS rfl rfl (r_lenM tt22 rfl H hrv ?_)
  refine GoL.stepS rfl rfl (asI rfl ?_)
  refine GoL.nil ?_
  refine Goes.ret (ret1 (v := .int _ _) rfl rfl rfl H.nil ⟨rfl, rfl, ?_⟩)
  have h1 := hev.sum hrv.ok (F := fun k => if f k.1 k.2 = 0 then 0 else 1) (fun k hk => by simp [hk])
  rw [← h1]
  have h2 : sumL ev (fun e => if f (ex e).1 (ex e).2 = 0 then 0 else 1) = sumL ev fun _ => 1 := by
    refine sumL_congr fun e he => ?_
    obtain ⟨a, b, hk, _, _, h0, _⟩ := hev.sound e he
    have : ex e = (a, b) := by unfold ex; rw [hk, kxy_key]
    rw [this, if_neg h0]
  rw [h2]
  rw [sumL_one]

theorem Ents.count {P : Program} {kt : TypeId} {M M' : RO} {f g : Nat → Nat → Nat} {es es' : List MapEntry} {ck ck' : Nat} (h : Ents M f es) (h' : Ents M' g es') (hm : MOk P kt es ck) (hm' : MOk P kt es' ck') (hl : es.length = es'.length)
    (hs : ∀ e ∈ es, f (ex e).1 (ex e).2 = g (ex e).1 (ex e).2) : f = g := by
  funext a b
  by_cases h0 : f a b = 0
  · by_cases g0 : g a b = 0
    · rw [h0, g0]
    · exfalso
      obtain ⟨e', he', hk'⟩ := h'.complete a b g0
      have hex : ex e' = (a, b) := by unfold ex; rw [hk', kxy_key]
      have hsub : ∀ k ∈ ((a, b) :: es.map ex), k ∈ es'.map ex := by
        intro k hk
        rcases List.mem_cons.1 hk with rfl | hk
        · exact List.mem_map.2 ⟨e', he', hex⟩
        · obtain ⟨e, he, rfl⟩ := List.mem_map.1 hk
          obtain ⟨c, d, hkk, _, _, hne, _⟩ := h.sound e he
          have hexe : ex e = (c, d) := by unfold ex; rw [hkk, kxy_key]
          have := hs e he
          rw [hexe] at this ⊢
          obtain ⟨e2, he2, hk2⟩ := h'.complete c d (by rw [← this]; exact hne)
          exact List.mem_map.2 ⟨e2, he2, by unfold ex; rw [hk2, kxy_key]⟩
      have hnd : ((a, b) :: es.map ex).Nodup := by
        refine List.nodup_cons.2 ⟨?_, h.ex_nodup hm⟩
        intro hmem
        obtain ⟨e, he, hexe⟩ := List.mem_map.1 hmem
        obtain ⟨c, d, hkk, _, _, hne, _⟩ := h.sound e he
        have : ex e = (c, d) := by unfold ex; rw [hkk, kxy_key]
        rw [hexe] at this
        cases this
        exact hne h0
      have := len_le_of_sub _ _ hnd hsub
      simp at this; omega
  · obtain ⟨e, he, hk⟩ := h.complete a b h0
    have := hs e he
    have hexe : ex e = (a, b) := by unfold ex; rw [hk, kxy_key]
    rw [hexe] at this; exact this
theorem Ents.size {P : Program} {kt : TypeId} {M : RO} {f : Nat → Nat → Nat} {es : List MapEntry} {ck : Nat} (h : Ents M f es) (hm : MOk P kt es ck) : es.length = sumL box fun k => if f k.1 k.2 = 0 then 0 else 1 := by
  have h1 := h.sum hm (F := fun k => if f k.1 k.2 = 0 then 0 else 1) (fun k hk => by simp [hk])
  rw [← h1]
  have h2 : sumL es (fun e => if f (ex e).1 (ex e).2 = 0 then 0 else 1) = sumL es fun _ => 1 := by
    refine sumL_congr fun e he => ?_
    obtain ⟨a, b, hk, _, _, h0, _⟩ := h.sound e he
    have : ex e = (a, b) := by unfold ex; rw [hk, kxy_key]
    rw [this, if_neg h0]
  rw [h2, sumL_one]

theorem pequal_spec {M : RO} {v u : Value} {f g : Nat → Nat → Nat} (hv : PolyV M v f) (hu : PolyV M u g) :
    Sp Tryz.prog 24 [v, u] M [] fun r M' L' => L' = [] ∧ M' = M ∧ ∃ t, r = .bool t ∧ (t = true ↔ f = g) := by
  obtain ⟨rv, ev, cv, rfl, hrv, hev⟩ := hv
  obtain ⟨ru, eu, cu, rfl, hru, heu⟩ := hu
  refine Sp.enter (n := 29) Tryz.func24 rfl Tryz.ntmps24 rfl ?_
  intro E hE H
  subst hE
  refine Goes.seq (Goes.region ?_)
  refine GoL.stepS rfl rfl (bxA rfl H ?_); clear H; intro b2 w hb2 H
  refine GoL.stepS rfl rfl (bxA rfl H ?_); clear H; intro b3 w hb3 H
  refine GoL.stepS rfl rfl (asB rfl ?_)
  refine GoL.nil ?_
  refine Goes.seq (Goes.seq (Goes.region ?_))
  first | refine GoL.stepS rfl rfl (r_fieldAddr0 fo24_0 rfl ?_) | refine GoL.stepS rfl rfl (r_fieldAddr fo24_0 rfl ?_)
  refine GoL.stepS rfl rfl (ldM tt22 rfl (H.own (by repeat constructor)) (by rfl) ?_)
  refine GoL.stepS rfl rfl (r_lenM tt22 rfl H hrv ?_)
  first | refine GoL.stepS rfl rfl (r_fieldAddr0 fo24_0 rfl ?_) | refine GoL.stepS rfl rfl (r_fieldAddr fo24_0 rfl ?_)
  refine GoL.stepS rfl rfl (ldM tt22 rfl (H.own (by repeat constructor)) (by rfl) ?_)
  refine GoL.stepS rfl rfl (r_lenM tt22 rfl H hru ?_)
  refine GoL.stepS rfl rfl (r_neq rfl rfl ?_)
  refine GoL.nil ?_
  refine Goes.cond rfl (fun hne => ?_) (fun hne => ?_)
  · have hne' : ev.length ≠ eu.length := by have : ((ev.length : Int) != (eu.length : Int)) = true := hne
                                            simp only [bne_iff_ne] at this; omega
    refine Goes.seq (Goes.region ?_)
    refine GoL.stepS rfl rfl (asB rfl ?_)
    refine GoL.nil ?_
    refine Goes.ret (ret1 (v := .bool _) rfl rfl rfl H.nil ⟨rfl, rfl, false, rfl, ?_⟩)
    constructor
    · intro h; cases h
    · rintro rfl; exact absurd ((hev.size hrv.ok).trans (heu.size hru.ok).symm) hne'
  · have hnn : ev.length = eu.length := by have : ((ev.length : Int) != (eu.length : Int)) = false := hne
                                           simp only [bne_eq_false_iff_eq] at this; omega
    refine Goes.skip (Goes.seq (Goes.seq (Goes.region ?_)))
    first | refine GoL.stepS rfl rfl (r_fieldAddr0 fo24_0 rfl ?_) | refine GoL.stepS rfl rfl (r_fieldAddr fo24_0 rfl ?_)
    refine GoL.stepS rfl rfl (ldM tt22 rfl (H.own (by repeat constructor)) (by rfl) ?_)
    refine GoL.stepS rfl rfl (r_rangeM tt22 rfl H hrv ?_); clear H; intro b16 w hb16 H
    refine GoL.nil ?_
    refine Goes.block ?_
    refine Goes.loopS [4, 5, 6, 17, 18, 19, 20, 21, 22, 23, 24, 25, 26, 27, 28] (fun (_ : List MapEntry) => []) (fun x w => DoneOK ev x ∧ (∀ e ∈ x, f (ex e).1 (ex e).2 = g (ex e).1 (ex e).2) ∧ Hp E E.M [itm b16 rv cv x, pt b3 (.cells #[.map ru] 24)] w) (fun x => ev.length - x.length) [] trivial ⟨.nil _, (fun e he => by cases he), H.sub (by (repeat (first | exact List.nil_sublist _ | apply List.Sublist.cons_cons | apply List.Sublist.cons)))⟩ ?_
    clear H
    rintro D f1 w ⟨hd, hD, H⟩ again
    refine Goes.seq (Goes.region ?_)
    refine GoL.stepS rfl rfl (r_nextM rfl H .head hrv hd.sub hd.nodup ?_); clear H; intro o17 w ho17 H
    refine GoL.stepS rfl rfl (r_extract (v := .bool o17.isSome) rfl (by cases o17 <;> rfl) ?_)
    refine GoL.nil ?_
    refine Goes.seq ?_
    refine Goes.cond rfl (fun hs => ?_) (fun hs => ?_)
    · obtain ⟨e, rfl⟩ := Option.isSome_iff_exists.1 hs
      obtain ⟨he, hne⟩ := ho17
      obtain ⟨a, b, hkey, ha, hb, _, hval⟩ := hev.sound e he
      obtain ⟨va, vn, vc, hvv⟩ := hval.shape
      obtain ⟨ek, evv, eb⟩ := e
      dsimp only at hkey hvv hval
      subst hkey hvv
      obtain ⟨o, ho⟩ := FindOK.ex eu (key a b)
      have hfo := heu.find ho
      have hkok := key_ok (a := a) (b := b) (by omega) (by omega)
      refine Goes.skip (Goes.block (Goes.seq (Goes.region ?_)))
      refine GoL.stepS rfl rfl (r_entryM rfl H .head hrv he ?_)
      refine GoL.stepS rfl rfl (r_extract (v := .agg #[.int _ _, .int _ _]) rfl rfl ?_)
      refine GoL.stepS rfl rfl (r_extract (v := .agg #[.slice _ _ _]) rfl rfl ?_)
      refine GoL.stepS rfl rfl (r_alloc tt90 H ?_); clear H; intro b5 w hb5 H
      refine GoL.stepS rfl rfl (r_alloc tt49 H ?_); clear H; intro b6 w hb6 H
      refine GoL.step0 rfl (stA tt90 rfl rfl H (by repeat constructor) rfl rfl (by rfl) ?_); clear H; intro w H
      refine GoL.step0 rfl (stA tt49 rfl rfl H (by repeat constructor) rfl rfl (by rfl) ?_); clear H; intro w H
      refine GoL.nil ?_
      refine Goes.seq ?_
      refine Goes.regionD0 mixed (by kernel_rfl) 8 H ?_
      refine Ver.read (v := .agg _) 0 rfl (by kernel_rfl) (fun M' L' w hM H => ldA tt49 rfl (H.own (by repeat constructor)) rfl (by rfl) ⟨rfl, rfl⟩) ?_
      first | refine Ver.read (v := .pointer _) 1 rfl (by kernel_rfl) (fun M' L' w hM H => r_fieldAddr0 fo24_0 rfl ⟨rfl, rfl⟩) ?_ | refine Ver.read (v := .pointer _) 1 rfl (by kernel_rfl) (fun M' L' w hM H => r_fieldAddr fo24_0 rfl ⟨rfl, rfl⟩) ?_
      refine Ver.read (v := .map _) 2 rfl (by kernel_rfl) (fun M' L' w hM H => ldM tt22 rfl (H.own (by repeat constructor)) (by rfl) ⟨rfl, rfl⟩) ?_
      refine Ver.read (v := .agg _) 3 rfl (by kernel_rfl) (fun M' L' w hM H => ldA tt90 rfl (H.own (by repeat constructor)) rfl (by rfl) ⟨rfl, rfl⟩) ?_
      refine Ver.read (v := ((o.map (·.val)).getD (.agg #[.slice none 0 0]))) 4 rfl (by kernel_rfl) (fun M' L' w hM H => r_lookupMO tt22 tt49 keyedP rfl rfl H (hru.mono hM) hkok (fun o' ho' => ho'.uniq hru.ok ho) ⟨rfl, rfl⟩) ?_
      refine Ver.bar0 5 (by kernel_rfl) rfl (by kernel_rfl) ?_
      clear H; intro w H
      refine r_call cc31 (equalN hval hfo) H ?_
      clear H; rintro v27 M27 L27 w hM27 ⟨rfl, rfl, rfl⟩ H
      refine ⟨_, _, hM27, H, ?_⟩
      refine Ver.read (v := .bool _) 6 rfl (by kernel_rfl) (fun M' L' w hM H => r_not rfl ⟨rfl, rfl⟩) ?_
      refine Ver.fin0 (by kernel_rfl) ?_
      clear H; intro w H
      refine Goes.cond rfl (fun hb2 => ?_) (fun hb2 => ?_)
      · have hxy : f a b ≠ g a b := by simpa using hb2
        refine Goes.seq (Goes.region ?_)
        refine GoL.stepS rfl rfl (asB rfl ?_)
        refine GoL.nil ?_
        refine Goes.ret (ret1 (v := .bool _) rfl rfl rfl H.nil ⟨rfl, rfl, false, rfl, ?_⟩)
        constructor
        · intro h; cases h
        · rintro rfl; exact absurd rfl hxy
      · have hxy : f a b = g a b := by simpa using hb2
        refine Goes.skip (Goes.inBlock ?_)
        refine again (D ++ [⟨key a b, .agg #[.slice va vn vc], eb⟩]) _ _ trivial (.of_strip (by kernel_rfl)) ⟨hd.push he hne, ?_, H.sub (by (repeat (first | exact List.nil_sublist _ | apply List.Sublist.cons_cons | apply List.Sublist.cons)))⟩ (hd.lt he hne)
        intro x hx
        rcases List.mem_append.1 hx with hx | hx
        · exact hD x hx
        · obtain rfl := List.mem_singleton.1 hx
          rw [ex_mk]; exact hxy
    · have : o17 = none := by cases o17 <;> simp_all
      subst this
      refine Goes.exit rfl (Goes.seq (Goes.region ?_))
      refine GoL.stepS rfl rfl (asB rfl ?_)
      refine GoL.nil ?_
      refine Goes.ret (ret1 (v := .bool _) rfl rfl rfl H.nil ⟨rfl, rfl, true, rfl, ⟨fun _ => ?_, fun _ => rfl⟩⟩)
      exact hev.count heu hrv.ok hru.ok hnn fun e he => hD e (ho17.mem_iff.2 he)

/-- The greatest exponents. -/
structure IsDeg (f : Nat → Nat → Nat) (p : Nat → Nat → Nat) (x : Int) : Prop where
  low : -1 ≤ x
  high : x ≤ 2048
  ge : ∀ a b, f a b ≠ 0 → (p a b : Int) ≤ x
  at_ : x = -1 ∨ ∃ a b, f a b ≠ 0 ∧ x = (p a b : Int)

theorem degree_spec {M : RO} {v : Value} {f : Nat → Nat → Nat} (hv : PolyV M v f) : Sp Tryz.prog 37 [v] M [] fun r M' L' => L' = [] ∧ M' = M ∧ ∃ x y, r = .tuple #[.int .i64 x, .int .i64 y] ∧ IsDeg f (fun a _ => a) x ∧ IsDeg f (fun _ b => b) y := by
  obtain ⟨rv, ev, cv, rfl, hrv, hev⟩ := hv
  refine Sp.enter (n := 24) Tryz.func37 rfl Tryz.ntmps37 rfl ?_
  intro E hE H
  subst hE
  refine Goes.seq (Goes.region ?_)
  refine GoL.stepS rfl rfl (bxA rfl H ?_); clear H; intro b1 w hb1 H
  refine GoL.stepS rfl rfl (asI rfl ?_)
  refine GoL.stepS rfl rfl (asI rfl ?_)
  refine GoL.nil ?_
  refine Goes.seq (Goes.region ?_)
  refine GoL.stepS rfl rfl (asI rfl ?_)
  refine GoL.stepS rfl rfl (asI rfl ?_)
  refine GoL.nil ?_
  refine Goes.seq (Goes.seq (Goes.region ?_))
  first | refine GoL.stepS rfl rfl (r_fieldAddr0 fo24_0 rfl ?_) | refine GoL.stepS rfl rfl (r_fieldAddr fo24_0 rfl ?_)
  refine GoL.stepS rfl rfl (ldM tt22 rfl (H.own (by repeat constructor)) (by rfl) ?_)
  refine GoL.stepS rfl rfl (r_rangeM tt22 rfl H hrv ?_); clear H; intro b9 w hb9 H
  refine GoL.nil ?_
  refine Goes.block ?_
  refine Goes.loopS [4, 5, 6, 10, 11, 12, 13, 14, 15, 16, 17, 18, 19, 20, 21] (fun (x : List MapEntry × Int × Int) => [(4, .int .i64 x.2.1), (5, .int .i64 x.2.2)]) (fun x w => DoneOK ev x.1 ∧ (-1 ≤ x.2.1 ∧ x.2.1 ≤ 2048 ∧ (∀ e ∈ x.1, ((ex e).1 : Int) ≤ x.2.1) ∧ (x.2.1 = -1 ∨ ∃ e ∈ x.1, x.2.1 = ((ex e).1 : Int))) ∧ (-1 ≤ x.2.2 ∧ x.2.2 ≤ 2048 ∧ (∀ e ∈ x.1, ((ex e).2 : Int) ≤ x.2.2) ∧ (x.2.2 = -1 ∨ ∃ e ∈ x.1, x.2.2 = ((ex e).2 : Int))) ∧ Hp E E.M [itm b9 rv cv x.1] w) (fun x => ev.length - x.1.length) ([], -1, -1) ⟨rfl, rfl, trivial⟩ ⟨.nil _, ⟨by decide, by decide, (fun e he => by cases he), .inl rfl⟩, ⟨by decide, by decide, (fun e he => by cases he), .inl rfl⟩, H.sub (by (repeat (first | exact List.nil_sublist _ | apply List.Sublist.cons_cons | apply List.Sublist.cons)))⟩ ?_
  clear H
  rintro ⟨D, x, y⟩ f1 w ⟨hd, hx, hy, H⟩ again
  dsimp only at hd hx hy H
  refine Goes.seq (Goes.region ?_)
  refine GoL.stepS rfl rfl (r_nextM rfl H .head hrv hd.sub hd.nodup ?_); clear H; intro o10 w ho10 H
  refine GoL.stepS rfl rfl (r_extract (v := .bool o10.isSome) rfl (by cases o10 <;> rfl) ?_)
  refine GoL.nil ?_
  refine Goes.seq ?_
  refine Goes.cond rfl (fun hs => ?_) (fun hs => ?_)
  · obtain ⟨e, rfl⟩ := Option.isSome_iff_exists.1 hs
    obtain ⟨he, hne⟩ := ho10
    obtain ⟨a, b, hkey, ha, hb, _, hval⟩ := hev.sound e he
    obtain ⟨ek, evv, eb⟩ := e
    dsimp only at hkey hval
    subst hkey
    refine Goes.skip (Goes.block (Goes.seq (Goes.region ?_)))
    refine GoL.stepS rfl rfl (r_entryM rfl H .head hrv he ?_)
    refine GoL.stepS rfl rfl (r_extract (v := .agg #[.int _ _, .int _ _]) rfl rfl ?_)
    refine GoL.stepS rfl rfl (r_alloc tt90 H ?_); clear H; intro b6 w hb6 H
    refine GoL.step0 rfl (stA tt90 rfl rfl H (by repeat constructor) rfl rfl (by rfl) ?_); clear H; intro w H
    refine GoL.nil ?_
    refine Goes.regionD0 mixed (by kernel_rfl) 11 H ?_
    refine Ver.read (v := .int _ _) 0 rfl (by kernel_rfl) (fun M' L' w hM H => mvI rfl ⟨rfl, rfl⟩) ?_
    first | refine Ver.read (v := .pointer _) 1 rfl (by kernel_rfl) (fun M' L' w hM H => r_fieldAddr0 fo90_0 rfl ⟨rfl, rfl⟩) ?_ | refine Ver.read (v := .pointer _) 1 rfl (by kernel_rfl) (fun M' L' w hM H => r_fieldAddr fo90_0 rfl ⟨rfl, rfl⟩) ?_
    refine Ver.read (v := .int _ _) 2 rfl (by kernel_rfl) (fun M' L' w hM H => ldI tt3 rfl (H.own (by repeat constructor)) (by rfl) ⟨rfl, rfl⟩) ?_
    refine Ver.read (v := (.int _ _)) 3 rfl (by kernel_rfl) (fun M' L' w hM H => r_max2 rfl rfl ⟨rfl, rfl⟩) ?_
    refine Ver.read (v := .int _ _) 4 rfl (by kernel_rfl) (fun M' L' w hM H => mvI rfl ⟨rfl, rfl⟩) ?_
    first | refine Ver.read (v := .pointer _) 5 rfl (by kernel_rfl) (fun M' L' w hM H => r_fieldAddr0 fo90_1 rfl ⟨rfl, rfl⟩) ?_ | refine Ver.read (v := .pointer _) 5 rfl (by kernel_rfl) (fun M' L' w hM H => r_fieldAddr fo90_1 rfl ⟨rfl, rfl⟩) ?_
    refine Ver.read (v := .int _ _) 6 rfl (by kernel_rfl) (fun M' L' w hM H => ldI tt3 rfl (H.own (by repeat constructor)) (by rfl) ⟨rfl, rfl⟩) ?_
    refine Ver.read (v := (.int _ _)) 7 rfl (by kernel_rfl) (fun M' L' w hM H => r_max2 rfl rfl ⟨rfl, rfl⟩) ?_
    refine Ver.next0 8 (by kernel_rfl) rfl (by kernel_rfl) ?_
    clear H; intro w H
    refine asI rfl ?_
    refine ⟨_, RO.le.refl _, H, ?_⟩
    refine Ver.bar0 9 (by kernel_rfl) rfl (by kernel_rfl) ?_
    clear H; intro w H
    refine asI rfl ?_
    refine ⟨_, _, RO.le.refl _, H, ?_⟩
    refine Ver.fin0 (by kernel_rfl) ?_
    clear H; intro w H
    refine Goes.inBlock ?_
    refine again (D ++ [⟨key a b, evv, eb⟩], max x (a : Int), max y (b : Int)) _ _ ⟨rfl, rfl, trivial⟩ (.of_strip (by kernel_rfl)) ⟨hd.push he hne, ⟨by dsimp only; omega, by dsimp only; omega, ?_, ?_⟩, ⟨by dsimp only; omega, by dsimp only; omega, ?_, ?_⟩, H.sub (by (repeat (first | exact List.nil_sublist _ | apply List.Sublist.cons_cons | apply List.Sublist.cons)))⟩ (hd.lt he hne)
    · intro z hz
      rcases List.mem_append.1 hz with hz | hz
      · have := hx.2.2.1 z hz; dsimp only; omega
      · obtain rfl := List.mem_singleton.1 hz; rw [ex_mk]; dsimp only; omega
    · rcases (by omega : max x (a : Int) = a ∨ max x (a : Int) = x) with h | h
      · exact .inr ⟨_, List.mem_append_right _ (List.mem_singleton.2 rfl), by rw [ex_mk]; exact h⟩
      · rcases hx.2.2.2 with h2 | ⟨e, he, h2⟩
        · exact .inl (h.trans h2)
        · exact .inr ⟨e, List.mem_append_left _ he, h.trans h2⟩
    · intro z hz
      rcases List.mem_append.1 hz with hz | hz
      · have := hy.2.2.1 z hz; dsimp only; omega
      · obtain rfl := List.mem_singleton.1 hz; rw [ex_mk]; dsimp only; omega
    · rcases (by omega : max y (b : Int) = b ∨ max y (b : Int) = y) with h | h
      · exact .inr ⟨_, List.mem_append_right _ (List.mem_singleton.2 rfl), by rw [ex_mk]; exact h⟩
      · rcases hy.2.2.2 with h2 | ⟨e, he, h2⟩
        · exact .inl (h.trans h2)
        · exact .inr ⟨e, List.mem_append_left _ he, h.trans h2⟩
  · have : o10 = none := by cases o10 <;> simp_all
    subst this
    refine Goes.exit rfl (Goes.seq (Goes.region ?_))
    refine GoL.stepS rfl rfl (mvI rfl ?_)
    refine GoL.stepS rfl rfl (mvI rfl ?_)
    refine GoL.stepS rfl rfl (asI rfl ?_)
    refine GoL.stepS rfl rfl (asI rfl ?_)
    refine GoL.nil ?_
    have hget : ∀ e ∈ ev, f (ex e).1 (ex e).2 ≠ 0 := by
      intro e he
      obtain ⟨a, b, hk, _, _, h0, _⟩ := hev.sound e he
      have : ex e = (a, b) := by unfold ex; rw [hk, kxy_key]
      rw [this]; exact h0
    have hall : ∀ a b, f a b ≠ 0 → ∃ e ∈ D, ex e = (a, b) := by
      intro a b h0
      obtain ⟨e, he, hk⟩ := hev.complete a b h0
      exact ⟨e, ho10.mem_iff.2 he, by unfold ex; rw [hk, kxy_key]⟩
    refine Goes.ret (ret2 (v := .int _ _) (v' := .int _ _) rfl rfl rfl rfl H.nil ⟨rfl, rfl, x, y, rfl, ⟨hx.1, hx.2.1, ?_, ?_⟩, ⟨hy.1, hy.2.1, ?_, ?_⟩⟩)
    · intro a b h0
      obtain ⟨e, he, h⟩ := hall a b h0
      have := hx.2.2.1 e he; rw [h] at this; exact this
    · exact hx.2.2.2.imp id fun ⟨e, he, h⟩ => ⟨_, _, hget e (ho10.mem_iff.1 he), h⟩
    · intro a b h0
      obtain ⟨e, he, h⟩ := hall a b h0
      have := hy.2.2.1 e he; rw [h] at this; exact this
    · exact hy.2.2.2.imp id fun ⟨e, he, h⟩ => ⟨_, _, hget e (ho10.mem_iff.1 he), h⟩

end Go.Proofs.YtlcpdkckldlceaaGreatDoor
namespace Go.Proofs.YtlcpdkckldlceaaGreatDoor
open Go.Sx Go.Nat32 Go.PolyL
attribute [local irreducible] pt sl itc itm
set_option maxRecDepth 100000

theorem Ents.findI {M : RO} {f : Nat → Nat → Nat} {es : List MapEntry} (h : Ents M f es) {a b : Int} {o : Option MapEntry} (ho : FindOK es (keyI a b) o) :
    NatV M ((o.map (·.val)).getD (.agg #[.slice none 0 0])) (if 0 ≤ a ∧ 0 ≤ b then f a.toNat b.toNat else 0) := by
  by_cases hab : 0 ≤ a ∧ 0 ≤ b
  · rw [if_pos hab]
    have : keyI a b = key a.toNat b.toNat := by
      unfold keyI key; rw [Int.toNat_of_nonneg hab.1, Int.toNat_of_nonneg hab.2]
    rw [this] at ho
    exact h.find ho
  · rw [if_neg hab]
    cases o with
    | none => exact NatV.zero M
    | some e =>
      exfalso
      obtain ⟨he, hk⟩ := ho
      obtain ⟨c, d, h1, _⟩ := h.sound e he
      rw [h1] at hk
      simp [key, keyI] at hk
      omega

theorem coefficient_spec {M : RO} {v : Value} {f : Nat → Nat → Nat} {a b : Int} (hv : PolyV M v f) (ha : -9223372036854775808 ≤ a ∧ a ≤ 9223372036854775807) (hb : -9223372036854775808 ≤ b ∧ b ≤ 9223372036854775807) :
    Sp Tryz.prog 39 [v, .int .i64 a, .int .i64 b] M [] fun r M' L' => L' = [] ∧ M' = M ∧ NatV M r (if 0 ≤ a ∧ 0 ≤ b then f a.toNat b.toNat else 0) := by
  obtain ⟨rv, ev, cv, rfl, hrv, hev⟩ := hv
  refine Sp.enter (n := 13) Tryz.func39 rfl Tryz.ntmps39 rfl ?_
  intro E hE H
  subst hE
  obtain ⟨o, ho⟩ := FindOK.ex ev (keyI a b)
  have hfo := hev.findI ho
  obtain ⟨va, vn, vc, hvv⟩ := hfo.shape
  have hkok := key_okI ha hb
  have hnat := hfo
  rw [hvv] at hnat
  refine Goes.seq (Goes.region ?_)
  refine GoL.stepS rfl rfl (bxA rfl H ?_); clear H; intro b3 w hb3 H
  refine GoL.stepS rfl rfl (r_alloc tt49 H ?_); clear H; intro b6 w hb6 H
  refine GoL.nil ?_
  refine Goes.seq (Goes.region ?_)
  first | refine GoL.stepS rfl rfl (r_fieldAddr0 fo24_0 rfl ?_) | refine GoL.stepS rfl rfl (r_fieldAddr fo24_0 rfl ?_)
  refine GoL.stepS rfl rfl (ldM tt22 rfl (H.own (by repeat constructor)) (by rfl) ?_)
  refine GoL.stepS rfl rfl (mvI rfl ?_)
  refine GoL.stepS rfl rfl (mvI rfl ?_)
  refine GoL.stepS rfl rfl (bld (cells := [.int _ _, .int _ _]) tt90 pl90 pz90 rfl (by rfl) ?_)
  refine GoL.stepS rfl rfl (r_lookupMO tt22 tt49 keyedP rfl rfl H hrv hkok (fun o' ho' => ho'.uniq hrv.ok ho) ?_)
  rw [hvv]
  refine GoL.step0 rfl (stA tt49 rfl rfl H (by repeat constructor) rfl rfl (by rfl) ?_); clear H; intro w H
  refine GoL.nil ?_
  exact Goes.ret (ret1 (v := .agg #[.slice _ _ _]) rfl rfl (res_agg rfl tt49 (H.own (by repeat constructor)) rfl (by rfl)) H.nil ⟨rfl, rfl, hnat⟩)

theorem lim.pow {k x : Nat} (h : lim k x) : ∀ j, lim (k * j + 1) (x ^ j)
  | 0 => by simp [lim]
  | j + 1 => by
    have := (lim.pow h j).mul h
    rw [Nat.pow_succ]
    exact this.mono (by rw [Nat.mul_add]; omega)

theorem raised_spec {M : RO} {v : Value} {x n k : Nat} (hv : NatV M v x) (lx : lim k x) (hk : k ≤ 100) (hn : n ≤ 2048) :
    Sp Tryz.prog 73 [v, .int .i64 (n : Int)] M [] fun r M' L' => L' = [] ∧ NatV M' r (x ^ n) := by
  obtain ⟨va, vn, vc, rfl⟩ := hv.shape
  refine Sp.enter (n := 21) Tryz.func73 rfl Tryz.ntmps73 rfl ?_
  intro E hE H
  subst hE
  refine Goes.seq (Goes.region ?_)
  refine GoL.stepS rfl rfl (bxA rfl H ?_); clear H; intro b2 w hb2 H
  refine GoL.stepS rfl rfl (r_alloc tt49 H ?_); clear H; intro b4 w hb4 H
  refine GoL.nil ?_
  refine Goes.seq (Goes.region ?_)
  refine GoL.stepS rfl rfl (r_call cc25 (fromUint64N (x := 1) (by first | omega | (dsimp only; omega))) H ?_); clear H; rintro v6 M6 L6 w hM6 ⟨rfl, hv6⟩ H
  obtain ⟨ua, un, uc, rfl⟩ := hv6.shape
  refine GoL.stepS rfl rfl (r_alloc tt49 H ?_); clear H; intro b5 w hb5 H
  refine GoL.step0 rfl (stA tt49 rfl rfl H (by repeat constructor) rfl rfl (by rfl) ?_); clear H; intro w H
  refine GoL.nil ?_
  refine Goes.seq (Goes.block ?_)
  refine Goes.loopS [1, 7, 8, 9, 10, 11, 12, 13, 14, 15, 16, 17, 18, 19] (fun (s : Nat × Nat × Nat × (Option Addr × Nat × Nat) × (Option Addr × Nat × Nat) × RO) => [(1, .int .i64 (s.1 : Int))]) (fun s w => s.2.1 + s.2.2.1 * s.1 = n ∧ (1 ≤ s.2.2.1 ∧ s.2.2.1 ≤ 4096) ∧ (s.1 = 0 ∨ s.2.2.1 ≤ 2048) ∧ E.M.le s.2.2.2.2.2 ∧ NatV s.2.2.2.2.2 (.agg #[.slice s.2.2.2.1.1 s.2.2.2.1.2.1 s.2.2.2.1.2.2]) (x ^ s.2.1) ∧ NatV s.2.2.2.2.2 (.agg #[.slice s.2.2.2.2.1.1 s.2.2.2.2.1.2.1 s.2.2.2.2.1.2.2]) (x ^ s.2.2.1) ∧
      Hp E s.2.2.2.2.2 [pt b5 (.cells #[.slice s.2.2.2.1.1 s.2.2.2.1.2.1 s.2.2.2.1.2.2] 49), pt b4 (.cells #[.slice none 0 0] 49), pt b2 (.cells #[.slice s.2.2.2.2.1.1 s.2.2.2.2.1.2.1 s.2.2.2.2.1.2.2] 49)] w) (fun s => s.1) (n, 0, 1, (ua, un, uc), (va, vn, vc), _) ⟨rfl, trivial⟩ ⟨by simp, by simp, by simp, hM6, by rw [Nat.pow_zero]; exact hv6, by rw [Nat.pow_one]; exact hv.mono hM6, H⟩ ?_
  clear H
  rintro ⟨m, j, p, ⟨oa, on, oc⟩, ⟨ya, yn, yc⟩, M1⟩ f1 w ⟨hjp, hp, hp2, hM1, ho, hy, H⟩ again
  dsimp only at hjp hp hp2 hM1 ho hy H
  refine Goes.seq (Goes.seq (Goes.region ?_))
  refine GoL.stepS rfl rfl (mvI rfl ?_)
  refine GoL.stepS rfl rfl (r_gtr rfl rfl ?_)
  refine GoL.nil ?_
  refine Goes.cond rfl (fun hc => ?_) (fun hc => ?_)
  · have hm0 : 0 < m := by simpa using hc
    have hp3 : p ≤ 2048 := by rcases hp2 with h | h
                              · omega
                              · exact h
    have hpn : p * m ≤ n := by omega
    have hjn : j ≤ n := by omega
    have hm3 : m ≤ 2048 := by have : 1 * m ≤ p * m := Nat.mul_le_mul_right _ hp.1
                              omega
    have lo := (lim.pow lx j).mono (show k * j + 1 ≤ 300000 by have := Nat.mul_le_mul hk (show j ≤ 2048 by omega); omega)
    have ly := (lim.pow lx p).mono (show k * p + 1 ≤ 300000 by have := Nat.mul_le_mul hk hp3; omega)
    have hm2 : p * 2 * (m / 2) = p * m - p * (m % 2) := by
      have := Nat.div_add_mod m 2
      have h2 : p * m = p * (2 * (m / 2) + m % 2) := by rw [this]
      rw [h2, Nat.mul_add, ← Nat.mul_assoc]; omega
    have hpm : m / 2 = 0 ∨ p * 2 ≤ 2048 := by
      by_cases h : m / 2 = 0
      · exact .inl h
      · right
        have h3 : p * 2 * 1 ≤ p * 2 * (m / 2) := Nat.mul_le_mul_left _ (Nat.pos_of_ne_zero h)
        omega
    refine Goes.skip (Goes.seq (Goes.block (Goes.seq (Goes.seq (Goes.region ?_)))))
    refine GoL.stepS rfl rfl (mvI rfl ?_)
    refine GoL.stepS rfl rfl (r_remR ((m % 2 : Nat) : Int) rfl rfl (by first | omega | (dsimp only; omega)) (by first | omega | (dsimp only; omega)) (by first | omega | (dsimp only; omega)) ?_)
    refine GoL.stepS rfl rfl (r_eql rfl rfl ?_)
    refine GoL.nil ?_
    refine Goes.cond rfl (fun hodd => ?_) (fun hodd => ?_)
    · have hodd' : m % 2 = 1 := by have : ((m % 2 : Nat) : Int) = 1 := by simpa using hodd
                                   omega
      refine Goes.region ?_
      refine GoL.stepS rfl rfl (ldA tt49 rfl (H.own (by repeat constructor)) rfl (by rfl) ?_)
      refine GoL.stepS rfl rfl (ldA tt49 rfl (H.own (by repeat constructor)) rfl (by rfl) ?_)
      refine GoL.stepS rfl rfl (r_call cc33 (mulN ho hy lo ly (by first | omega | (dsimp only; omega)) (by first | omega | (dsimp only; omega))) H ?_); clear H; rintro v16 M16 L16 w hM16 ⟨rfl, hv16⟩ H
      obtain ⟨ra, rn, rc, rfl⟩ := hv16.shape
      refine GoL.step0 rfl (stA tt49 rfl rfl H (by repeat constructor) rfl rfl (by rfl) ?_); clear H; intro w H
      refine GoL.nil ?_
      refine Goes.region ?_
      refine GoL.stepS rfl rfl (ldA tt49 rfl (H.own (by repeat constructor)) rfl (by rfl) ?_)
      refine GoL.stepS rfl rfl (ldA tt49 rfl (H.own (by repeat constructor)) rfl (by rfl) ?_)
      refine GoL.stepS rfl rfl (r_call cc33 (mulN (hy.mono hM16) (hy.mono hM16) ly ly (by first | omega | (dsimp only; omega)) (by first | omega | (dsimp only; omega))) H ?_); clear H; rintro v19 M19 L19 w hM19 ⟨rfl, hv19⟩ H
      obtain ⟨sa, sn, sc, rfl⟩ := hv19.shape
      refine GoL.step0 rfl (stA tt49 rfl rfl H (by repeat constructor) rfl rfl (by rfl) ?_); clear H; intro w H
      refine GoL.nil ?_
      refine Goes.inBlock (Goes.region ?_)
      refine GoL.stepS rfl rfl (mvI rfl ?_)
      refine GoL.stepS rfl rfl (r_quoI rfl rfl (by first | omega | (dsimp only; omega)) (by first | omega | (dsimp only; omega)) (by first | omega | (dsimp only; omega)) ?_)
      refine GoL.stepS rfl rfl (asI rfl ?_)
      refine GoL.nil ?_
      refine again (m / 2, j + p, p * 2, (ra, rn, rc), (sa, sn, sc), M19) _ _ ⟨by rfl, trivial⟩ (.of_strip (by kernel_rfl)) ⟨?_, by dsimp only; omega, hpm, hM1.trans (hM16.trans hM19), ?_, ?_, H⟩ (by dsimp only; omega)
      · dsimp only; rw [hm2, hodd', Nat.mul_one]
        have : p * 1 ≤ p * m := Nat.mul_le_mul_left _ hm0
        omega
      · rw [Nat.pow_add]; exact hv16.mono hM19
      · rw [Nat.mul_two, Nat.pow_add]; exact hv19
    · have hodd' : m % 2 = 0 := by have : ¬ ((m % 2 : Nat) : Int) = 1 := by simpa using hodd
                                   omega
      refine Goes.skip (Goes.region ?_)
      refine GoL.stepS rfl rfl (ldA tt49 rfl (H.own (by repeat constructor)) rfl (by rfl) ?_)
      refine GoL.stepS rfl rfl (ldA tt49 rfl (H.own (by repeat constructor)) rfl (by rfl) ?_)
      refine GoL.stepS rfl rfl (r_call cc33 (mulN hy hy ly ly (by first | omega | (dsimp only; omega)) (by first | omega | (dsimp only; omega))) H ?_); clear H; rintro v19 M19 L19 w hM19 ⟨rfl, hv19⟩ H
      obtain ⟨sa, sn, sc, rfl⟩ := hv19.shape
      refine GoL.step0 rfl (stA tt49 rfl rfl H (by repeat constructor) rfl rfl (by rfl) ?_); clear H; intro w H
      refine GoL.nil ?_
      refine Goes.inBlock (Goes.region ?_)
      refine GoL.stepS rfl rfl (mvI rfl ?_)
      refine GoL.stepS rfl rfl (r_quoI rfl rfl (by first | omega | (dsimp only; omega)) (by first | omega | (dsimp only; omega)) (by first | omega | (dsimp only; omega)) ?_)
      refine GoL.stepS rfl rfl (asI rfl ?_)
      refine GoL.nil ?_
      refine again (m / 2, j, p * 2, (oa, on, oc), (sa, sn, sc), M19) _ _ ⟨by rfl, trivial⟩ (.of_strip (by kernel_rfl)) ⟨?_, by dsimp only; omega, hpm, hM1.trans hM19, ho.mono hM19, ?_, H⟩ (by dsimp only; omega)
      · dsimp only; rw [hm2, hodd', Nat.mul_zero]; omega
      · rw [Nat.mul_two, Nat.pow_add]; exact hv19
  · have hm0 : m = 0 := by have : ¬ 0 < m := by simpa using hc
                           omega
    subst hm0
    refine Goes.exit rfl (Goes.seq (Goes.region ?_))
    refine GoL.stepS rfl rfl (ldA tt49 rfl (H.own (by repeat constructor)) rfl (by rfl) ?_)
    refine GoL.step0 rfl (stA tt49 rfl rfl H (by repeat constructor) rfl rfl (by rfl) ?_); clear H; intro w H
    refine GoL.nil ?_
    have hj : j = n := by omega
    subst hj
    exact Goes.ret (ret1 (v := .agg #[.slice _ _ _]) rfl rfl (res_agg rfl tt49 (H.own (by repeat constructor)) rfl (by rfl)) H.nil ⟨rfl, ho⟩)

/-- The value of a polynomial. -/
def evalF (f : Nat → Nat → Nat) (x y : Nat) : Nat := sumL box fun k => f k.1 k.2 * x ^ k.1 * y ^ k.2

theorem sum_lim {f : Nat → Nat → Nat} {x y k : Nat} (lf : ∀ a b, lim k (f a b)) (lx : lim 1 x) (ly : lim 1 y) {M : RO} {es D : List MapEntry} (hes : Ents M f es) (hd : ∀ e ∈ D, e ∈ es) (hl : D.length ≤ 2049 * 2049) :
    lim (k + 4099) (sumL D fun e => f (ex e).1 (ex e).2 * x ^ (ex e).1 * y ^ (ex e).2) := by
  have hc : ∀ e ∈ D, f (ex e).1 (ex e).2 * x ^ (ex e).1 * y ^ (ex e).2 ≤ 4294967296 ^ (k + 4098) := by
    intro e he
    have hb := mem_box.1 (hes.ex_box (hd e he)).1
    have := ((lf (ex e).1 (ex e).2).mul (lim.pow lx (ex e).1)).mul (lim.pow ly (ex e).2)
    exact Nat.le_of_lt (this.mono (by omega))
  have := sumL_le hc
  unfold lim
  rw [show k + 4099 = k + 4098 + 1 from rfl, Nat.pow_succ]
  refine Nat.lt_of_le_of_lt this ?_
  rw [Nat.mul_comm]
  exact Nat.mul_lt_mul_of_pos_left (by omega) (Nat.pow_pos (by decide))

theorem eval_spec {M : RO} {v u t : Value} {f : Nat → Nat → Nat} {x y k : Nat} (hv : PolyV M v f) (hu : NatV M u x) (ht : NatV M t y) (lf : ∀ a b, lim k (f a b)) (lx : lim 1 x) (ly : lim 1 y) (hk : k ≤ 400000) :
    Sp Tryz.prog 26 [v, u, t] M [] fun r M' L' => L' = [] ∧ NatV M' r (evalF f x y) := by
  obtain ⟨rv, ev, cv, rfl, hrv, hev⟩ := hv
  obtain ⟨xa, xn, xc, rfl⟩ := hu.shape
  obtain ⟨ya, yn, yc, rfl⟩ := ht.shape
  refine Sp.enter (n := 32) Tryz.func26 rfl Tryz.ntmps26 rfl ?_
  intro E hE H
  subst hE
  have nv := hev.length hrv.ok
  refine Goes.seq (Goes.region ?_)
  refine GoL.stepS rfl rfl (bxA rfl H ?_); clear H; intro b3 w hb3 H
  refine GoL.stepS rfl rfl (bxA rfl H ?_); clear H; intro b4 w hb4 H
  refine GoL.stepS rfl rfl (bxA rfl H ?_); clear H; intro b5 w hb5 H
  refine GoL.stepS rfl rfl (r_alloc tt49 H ?_); clear H; intro b6 w hb6 H
  refine GoL.nil ?_
  refine Goes.seq (Goes.region ?_)
  refine GoL.stepS rfl rfl (r_alloc tt49 H ?_); clear H; intro b7 w hb7 H
  refine GoL.nil ?_
  refine Goes.seq (Goes.seq (Goes.region ?_))
  first | refine GoL.stepS rfl rfl (r_fieldAddr0 fo24_0 rfl ?_) | refine GoL.stepS rfl rfl (r_fieldAddr fo24_0 rfl ?_)
  refine GoL.stepS rfl rfl (ldM tt22 rfl (H.own (by repeat constructor)) (by rfl) ?_)
  refine GoL.stepS rfl rfl (r_rangeM tt22 rfl H hrv ?_); clear H; intro b12 w hb12 H
  refine GoL.nil ?_
  refine Goes.block ?_
  refine Goes.loopS (8 :: 9 :: 13 :: 14 :: 15 :: 16 :: 17 :: 18 :: 19 :: 20 :: 21 :: 22 :: 23 :: 24 :: 25 :: 26 :: 27 :: 28 :: 29 :: 30 :: []) (fun (_ : List MapEntry × (Option Addr × Nat × Nat) × RO) => []) (fun s w => DoneOK ev s.1 ∧ NatV s.2.2 (.agg #[.slice s.2.1.1 s.2.1.2.1 s.2.1.2.2]) (sumL s.1 fun e => f (ex e).1 (ex e).2 * x ^ (ex e).1 * y ^ (ex e).2) ∧ E.M.le s.2.2 ∧ Hp E s.2.2 [itm b12 rv cv s.1, pt b7 (.cells #[.slice s.2.1.1 s.2.1.2.1 s.2.1.2.2] 49), pt b6 (.cells #[.slice none 0 0] 49), pt b5 (.cells #[.slice ya yn yc] 49), pt b4 (.cells #[.slice xa xn xc] 49)] w) (fun s => ev.length - s.1.length) ([], (none, 0, 0), E.M) trivial ⟨.nil _, .zero _, RO.le.refl _, H.sub (by (repeat (first | exact List.nil_sublist _ | apply List.Sublist.cons_cons | apply List.Sublist.cons)))⟩ ?_
  clear H
  rintro ⟨D, ⟨sa, sn, sc⟩, M1⟩ f1 w ⟨hd, hS, hM1, H⟩ again
  dsimp only at hd hS hM1 H
  refine Goes.seq (Goes.region ?_)
  refine GoL.stepS rfl rfl (r_nextM rfl H .head (hrv.mono hM1) hd.sub hd.nodup ?_); clear H; intro o13 w ho13 H
  refine GoL.stepS rfl rfl (r_extract (v := .bool o13.isSome) rfl (by cases o13 <;> rfl) ?_)
  refine GoL.nil ?_
  refine Goes.seq ?_
  refine Goes.cond rfl (fun hs => ?_) (fun hs => ?_)
  · obtain ⟨e, rfl⟩ := Option.isSome_iff_exists.1 hs
    obtain ⟨he, hne⟩ := ho13
    obtain ⟨a, b, hkey, ha, hb, _, hval⟩ := hev.sound e he
    obtain ⟨va, vn, vc, hvv⟩ := hval.shape
    obtain ⟨ek, evv, eb⟩ := e
    dsimp only at hkey hvv hval
    subst hkey hvv
    have ls := sum_lim lf lx ly hev hd.sub (Nat.le_trans hd.le nv)
    have lpx := lim.pow lx a
    have lpy := lim.pow ly b
    refine Goes.skip (Goes.block (Goes.seq (Goes.region ?_)))
    refine GoL.stepS rfl rfl (r_entryM rfl H .head (hrv.mono hM1) he ?_)
    refine GoL.stepS rfl rfl (r_extract (v := .agg #[.int _ _, .int _ _]) rfl rfl ?_)
    refine GoL.stepS rfl rfl (r_extract (v := .agg #[.slice _ _ _]) rfl rfl ?_)
    refine GoL.stepS rfl rfl (r_alloc tt90 H ?_); clear H; intro b8 w hb8 H
    refine GoL.stepS rfl rfl (r_alloc tt49 H ?_); clear H; intro b9 w hb9 H
    refine GoL.step0 rfl (stA tt90 rfl rfl H (by repeat constructor) rfl rfl (by rfl) ?_); clear H; intro w H
    refine GoL.step0 rfl (stA tt49 rfl rfl H (by repeat constructor) rfl rfl (by rfl) ?_); clear H; intro w H
    refine GoL.nil ?_
    refine Goes.regionD0 mixed (by kernel_rfl) 15 H ?_
    refine Ver.read (v := .agg _) 0 rfl (by kernel_rfl) (fun M' L' w hM H => ldA tt49 rfl (H.own (by repeat constructor)) rfl (by rfl) ⟨rfl, rfl⟩) ?_
    refine Ver.read (v := .agg _) 1 rfl (by kernel_rfl) (fun M' L' w hM H => ldA tt49 rfl (H.own (by repeat constructor)) rfl (by rfl) ⟨rfl, rfl⟩) ?_
    refine Ver.read (v := .agg _) 2 rfl (by kernel_rfl) (fun M' L' w hM H => ldA tt49 rfl (H.own (by repeat constructor)) rfl (by rfl) ⟨rfl, rfl⟩) ?_
    first | refine Ver.read (v := .pointer _) 3 rfl (by kernel_rfl) (fun M' L' w hM H => r_fieldAddr0 fo90_0 rfl ⟨rfl, rfl⟩) ?_ | refine Ver.read (v := .pointer _) 3 rfl (by kernel_rfl) (fun M' L' w hM H => r_fieldAddr fo90_0 rfl ⟨rfl, rfl⟩) ?_
    refine Ver.read (v := .int _ _) 4 rfl (by kernel_rfl) (fun M' L' w hM H => ldI tt3 rfl (H.own (by repeat constructor)) (by rfl) ⟨rfl, rfl⟩) ?_
    refine Ver.read (v := .agg _) 7 rfl (by kernel_rfl) (fun M' L' w hM H => ldA tt49 rfl (H.own (by repeat constructor)) rfl (by rfl) ⟨rfl, rfl⟩) ?_
    first | refine Ver.read (v := .pointer _) 8 rfl (by kernel_rfl) (fun M' L' w hM H => r_fieldAddr0 fo90_1 rfl ⟨rfl, rfl⟩) ?_ | refine Ver.read (v := .pointer _) 8 rfl (by kernel_rfl) (fun M' L' w hM H => r_fieldAddr fo90_1 rfl ⟨rfl, rfl⟩) ?_
    refine Ver.read (v := .int _ _) 9 rfl (by kernel_rfl) (fun M' L' w hM H => ldI tt3 rfl (H.own (by repeat constructor)) (by rfl) ⟨rfl, rfl⟩) ?_
    refine Ver.next0 5 (by kernel_rfl) rfl (by kernel_rfl) ?_
    clear H; intro w H
    refine r_call cc73 (raised_spec (hu.mono hM1) lx (by first | omega | (dsimp only; omega)) ha) H ?_
    clear H; rintro v23 M23 L23 w hM23 ⟨rfl, hv23⟩ H
    refine ⟨_, hM23, H, ?_⟩
    refine Ver.next0 6 (by kernel_rfl) rfl (by kernel_rfl) ?_
    clear H; intro w H
    refine r_call cc33 (mulN (hval.mono (hM1.trans hM23)) hv23 (lf a b) lpx (by first | omega | (dsimp only; omega)) (by first | omega | (dsimp only; omega))) H ?_
    clear H; rintro v24 M24 L24 w hM24 ⟨rfl, hv24⟩ H
    refine ⟨_, hM24, H, ?_⟩
    refine Ver.next0 10 (by kernel_rfl) rfl (by kernel_rfl) ?_
    clear H; intro w H
    refine r_call cc73 (raised_spec (ht.mono (hM1.trans (hM23.trans hM24))) ly (by first | omega | (dsimp only; omega)) hb) H ?_
    clear H; rintro v28 M28 L28 w hM28 ⟨rfl, hv28⟩ H
    refine ⟨_, hM28, H, ?_⟩
    refine Ver.next0 11 (by kernel_rfl) rfl (by kernel_rfl) ?_
    clear H; intro w H
    refine r_call cc33 (mulN (hv24.mono hM28) hv28 ((lf a b).mul lpx) lpy (by first | omega | (dsimp only; omega)) (by first | omega | (dsimp only; omega))) H ?_
    clear H; rintro v29 M29 L29 w hM29 ⟨rfl, hv29⟩ H
    refine ⟨_, hM29, H, ?_⟩
    refine Ver.bar0 12 (by kernel_rfl) rfl (by kernel_rfl) ?_
    clear H; intro w H
    refine r_call cc32 (addN (hS.mono (hM23.trans (hM24.trans (hM28.trans hM29)))) hv29 ls ((((lf a b).mul lpx).mul lpy).mono (by first | omega | (dsimp only; omega))) (by first | omega | (dsimp only; omega))) H ?_
    clear H; rintro v30 M30 L30 w hM30 ⟨rfl, hv30⟩ H
    refine ⟨_, _, hM30, H, ?_⟩
    refine Ver.bar0 13 (by kernel_rfl) rfl (by kernel_rfl) ?_
    clear H; intro w H
    obtain ⟨za, zn, zc, rfl⟩ := hv30.shape; refine stA tt49 rfl rfl H (by repeat constructor) rfl rfl (by rfl) ?_; clear H; intro w H
    refine ⟨_, _, RO.le.refl _, H, ?_⟩
    refine Ver.fin0 (by kernel_rfl) ?_
    clear H; intro w H
    refine Goes.inBlock ?_
    refine again (D ++ [⟨key a b, .agg #[.slice va vn vc], eb⟩], (za, zn, zc), M30) _ _ trivial (.of_strip (by kernel_rfl)) ⟨hd.push he hne, ?_, hM1.trans (hM23.trans (hM24.trans (hM28.trans (hM29.trans hM30)))), H.sub (by (repeat (first | exact List.nil_sublist _ | apply List.Sublist.cons_cons | apply List.Sublist.cons)))⟩ (hd.lt he hne)
    dsimp only
    rw [sumL_snoc, ex_mk]; exact hv30
  · have : o13 = none := by cases o13 <;> simp_all
    subst this
    refine Goes.exit rfl (Goes.seq (Goes.region ?_))
    refine GoL.stepS rfl rfl (ldA tt49 rfl (H.own (by repeat constructor)) rfl (by rfl) ?_)
    refine GoL.step0 rfl (stA tt49 rfl rfl H (by repeat constructor) rfl rfl (by rfl) ?_); clear H; intro w H
    refine GoL.nil ?_
    refine Goes.ret (ret1 (v := .agg #[.slice _ _ _]) rfl rfl (res_agg rfl tt49 (H.own (by repeat constructor)) rfl (by rfl)) H.nil ⟨rfl, ?_⟩)
    have h1 := hev.sum hrv.ok (F := fun k => f k.1 k.2 * x ^ k.1 * y ^ k.2) (fun k hk => by simp [hk])
    have h2 : evalF f x y = sumL D fun e => f (ex e).1 (ex e).2 * x ^ (ex e).1 * y ^ (ex e).2 := by
      rw [sumL_perm ho13]; exact h1.symm
    rw [h2]; exact hS

end Go.Proofs.YtlcpdkckldlceaaGreatDoor
namespace Go.Proofs.YtlcpdkckldlceaaGreatDoor
open Go.Sx Go.Nat32 Go.PolyL
attribute [local irreducible] pt sl itc itm
set_option maxRecDepth 100000
set_option linter.unusedVariables false
set_option linter.unusedSimpArgs false

theorem isNaN_spec {M : RO} {x : Int} : Sp Tryz.prog 112 [.int .i64 x] M [] fun r M' L' => L' = [] ∧ M' = M ∧ r = .bool false := by
  refine Sp.enter (n := 6) Tryz.func112 rfl Tryz.ntmps112 rfl ?_
  intro E hE H
  subst hE
  refine Goes.seq (Goes.region ?_)
  refine GoL.stepS rfl rfl (asB rfl ?_)
  refine GoL.nil ?_
  refine Goes.seq (Goes.region ?_)
  refine GoL.stepS rfl rfl (mvI rfl ?_)
  refine GoL.stepS rfl rfl (mvI rfl ?_)
  refine GoL.stepS rfl rfl (r_neq rfl rfl ?_)
  refine GoL.stepS rfl rfl (asB rfl ?_)
  refine GoL.nil ?_
  exact Goes.ret (ret1 (v := .bool _) rfl rfl rfl H.nil ⟨rfl, rfl, by simp⟩)

def cmpI (x y : Int) : Int := if x < y then -1 else if y < x then 1 else 0

theorem compare_spec {M : RO} {x y : Int} : Sp Tryz.prog 89 [.int .i64 x, .int .i64 y] M [] fun r M' L' => L' = [] ∧ M' = M ∧ r = .int .i64 (cmpI x y) := by
  refine Sp.enter (n := 20) Tryz.func89 rfl Tryz.ntmps89 rfl ?_
  intro E hE H
  subst hE
  refine Goes.seq (Goes.region ?_)
  refine GoL.stepS rfl rfl (asI rfl ?_)
  refine GoL.nil ?_
  refine Goes.seq (Goes.region ?_)
  refine GoL.stepS rfl rfl (mvI rfl ?_)
  refine GoL.stepS rfl rfl (r_call cc112 (isNaN_spec) H ?_); clear H; rintro v8 M8 L8 w hM8 ⟨rfl, rfl, rfl⟩ H
  refine GoL.stepS rfl rfl (asB rfl ?_)
  refine GoL.nil ?_
  refine Goes.seq (Goes.region ?_)
  refine GoL.stepS rfl rfl (mvI rfl ?_)
  refine GoL.stepS rfl rfl (r_call cc112 (isNaN_spec) H ?_); clear H; rintro v10 M10 L10 w hM10 ⟨rfl, rfl, rfl⟩ H
  refine GoL.stepS rfl rfl (asB rfl ?_)
  refine GoL.nil ?_
  refine Goes.seq (Goes.seq (Goes.region ?_))
  refine GoL.stepS rfl rfl (mvB rfl ?_)
  refine GoL.nil ?_
  refine Goes.condF rfl (rfl) ?_
  refine Goes.skip (Goes.seq (Goes.seq (Goes.region ?_)))
  refine GoL.stepS rfl rfl (mvB rfl ?_)
  refine GoL.nil ?_
  refine Goes.condF rfl (rfl) ?_
  refine Goes.skip (Goes.seq (Goes.seq (Goes.region ?_)))
  refine GoL.stepS rfl rfl (mvI rfl ?_)
  refine GoL.stepS rfl rfl (mvI rfl ?_)
  refine GoL.stepS rfl rfl (r_lss rfl rfl ?_)
  refine GoL.nil ?_
  refine Goes.cond rfl (fun h1 => ?_) (fun h1 => ?_)
  · have h1' : x < y := by simpa using h1
    refine Goes.seq (Goes.region ?_)
    refine GoL.stepS rfl rfl (asI rfl ?_)
    refine GoL.nil ?_
    exact Goes.ret (ret1 (v := .int _ _) rfl rfl rfl H.nil ⟨rfl, rfl, by rw [cmpI, if_pos h1']⟩)
  · have h1' : ¬ x < y := by simpa using h1
    refine Goes.skip (Goes.seq (Goes.seq (Goes.region ?_)))
    refine GoL.stepS rfl rfl (mvI rfl ?_)
    refine GoL.stepS rfl rfl (mvI rfl ?_)
    refine GoL.stepS rfl rfl (r_gtr rfl rfl ?_)
    refine GoL.nil ?_
    refine Goes.cond rfl (fun h2 => ?_) (fun h2 => ?_)
    · have h2' : y < x := by simpa using h2
      refine Goes.seq (Goes.region ?_)
      refine GoL.stepS rfl rfl (asI rfl ?_)
      refine GoL.nil ?_
      exact Goes.ret (ret1 (v := .int _ _) rfl rfl rfl H.nil ⟨rfl, rfl, by rw [cmpI, if_neg h1', if_pos h2']⟩)
    · have h2' : ¬ y < x := by simpa using h2
      refine Goes.skip (Goes.seq (Goes.region ?_))
      refine GoL.stepS rfl rfl (asI rfl ?_)
      refine GoL.nil ?_
      exact Goes.ret (ret1 (v := .int _ _) rfl rfl rfl H.nil ⟨rfl, rfl, by rw [cmpI, if_neg h1', if_neg h2']⟩)

theorem or_spec {M : RO} {b : Nat} {x y : Int} : Sp Tryz.prog 88 [.slice (some ⟨b, 0, none⟩) 2 2] M [pt b (.cells #[.int .i64 x, .int .i64 y] 3)] fun r M' L' => M' = M ∧ r = .int .i64 (if x = 0 then y else x) := by
  refine Sp.enter (n := 18) Tryz.func88 rfl Tryz.ntmps88 rfl ?_
  intro E hE H
  subst hE
  refine Goes.seq (Goes.region ?_)
  refine GoL.stepS rfl rfl (asI rfl ?_)
  refine GoL.nil ?_
  refine Goes.seq (Goes.region ?_)
  refine GoL.stepS rfl rfl (asI rfl ?_)
  refine GoL.nil ?_
  refine Goes.seq (Goes.seq (Goes.region ?_))
  refine GoL.stepS rfl rfl (mvL rfl ?_)
  refine GoL.stepS rfl rfl (r_lenSlice tt54 rfl ?_)
  refine GoL.stepS rfl rfl (mvI rfl ?_)
  refine GoL.nil ?_
  refine Goes.block ?_
  refine Goes.loopS [2, 5, 8, 9, 10, 11, 12, 13, 14, 15, 16] (fun (i : Nat) => [(8, .int .i64 (i : Int))]) (fun i w => i ≤ 2 ∧ (0 < i → x = 0) ∧ (1 < i → y = 0) ∧ Hp E E.M [pt b (.cells #[.int .i64 x, .int .i64 y] 3)] w) (fun i => 2 - i) (0 : Nat) ⟨rfl, trivial⟩ ⟨by omega, by omega, by omega, H⟩ ?_
  clear H
  rintro i f w ⟨hi, hx, hy, H⟩ again
  refine Goes.seq (Goes.region ?_)
  refine GoL.stepS rfl rfl (r_lss rfl rfl ?_)
  refine GoL.nil ?_
  refine Goes.seq ?_
  refine Goes.cond rfl (fun hc => ?_) (fun hc => ?_)
  · have hi2 : i < 2 := by have : (i : Int) < 2 := by simpa using hc
                           omega
    have hcell : ∃ z : Int, (#[Value.int .i64 x, .int .i64 y] : Array Value)[i]? = some (.int .i64 z) ∧ (i = 0 → z = x) ∧ (i = 1 → z = y) := by
      rcases (by omega : i = 0 ∨ i = 1) with rfl | rfl
      · exact ⟨x, rfl, fun _ => rfl, by omega⟩
      · exact ⟨y, rfl, by omega, fun _ => rfl⟩
    obtain ⟨z, hz, hz0, hz1⟩ := hcell
    refine Goes.skip (Goes.seq (Goes.block (Goes.seq (Goes.region ?_))))
    refine GoL.stepS rfl rfl (r_indexAddrN tt54 tt3 rfl rfl (by first | omega | (dsimp only; omega)) ?_)
    refine GoL.stepS rfl rfl (ldI (p := z) tt3 rfl (H.own .head) (by rw [Nat.mul_one, Nat.zero_add]; exact hz) ?_)
    refine GoL.stepS rfl rfl (asI rfl ?_)
    refine GoL.nil ?_
    refine Goes.seq (Goes.region ?_)
    refine GoL.stepS rfl rfl (mvI rfl ?_)
    refine GoL.stepS rfl rfl (mvI rfl ?_)
    refine GoL.stepS rfl rfl (r_neq rfl rfl ?_)
    refine GoL.nil ?_
    refine Goes.cond rfl (fun hne => ?_) (fun hne => ?_)
    · have hne' : z ≠ 0 := by simpa using hne
      refine Goes.seq (Goes.region ?_)
      refine GoL.stepS rfl rfl (mvI rfl ?_)
      refine GoL.stepS rfl rfl (asI rfl ?_)
      refine GoL.nil ?_
      refine Goes.ret (ret1 (v := .int _ _) rfl rfl rfl H.nil ⟨rfl, ?_⟩)
      rcases (by omega : i = 0 ∨ i = 1) with rfl | rfl
      · rw [hz0 rfl] at hne' ⊢; rw [if_neg hne']
      · rw [hx (by omega), if_pos rfl, hz1 rfl]
    · have hne' : z = 0 := by simpa using hne
      refine Goes.skip (Goes.inBlock (Goes.region ?_))
      refine GoL.stepS rfl rfl (r_addR ((i + 1 : Nat) : Int) rfl rfl (by first | omega | (dsimp only; omega)) (by first | omega | (dsimp only; omega)) (by first | omega | (dsimp only; omega)) ?_)
      refine GoL.stepS rfl rfl (mvI rfl ?_)
      refine GoL.nil ?_
      refine again (i + 1) _ _ ⟨rfl, trivial⟩ (.of_strip (by kernel_rfl)) ⟨by omega, fun _ => ?_, fun _ => ?_, H⟩ (by omega)
      · rcases (by omega : i = 0 ∨ i = 1) with rfl | rfl
        · rw [← hz0 rfl]; exact hne'
        · exact hx (by omega)
      · rcases (by omega : i = 0 ∨ i = 1) with rfl | rfl
        · omega
        · rw [← hz1 rfl]; exact hne'
  · have hi2 : i = 2 := by have : ¬ (i : Int) < 2 := by simpa using hc
                           omega
    subst hi2
    refine Goes.exit rfl (Goes.seq (Goes.region ?_))
    refine GoL.stepS rfl rfl (mvI rfl ?_)
    refine GoL.stepS rfl rfl (asI rfl ?_)
    refine GoL.nil ?_
    exact Goes.ret (ret1 (v := .int _ _) rfl rfl rfl H.nil ⟨rfl, by rw [if_pos (hx (by omega)), hy (by omega)]⟩)

def ordI (s t : Int × Int) : Int := if cmpI s.1 t.1 = 0 then cmpI s.2 t.2 else cmpI s.1 t.1

theorem order_spec {M : RO} {a b c d : Int} : Sp Tryz.prog 53 [.agg #[.int .i64 a, .int .i64 b], .agg #[.int .i64 c, .int .i64 d]] M [] fun r M' L' => M' = M ∧ r = .int .i64 (ordI (a, b) (c, d)) := by
  refine Sp.enter (n := 17) Tryz.func53 rfl Tryz.ntmps53 rfl ?_
  intro E hE H
  subst hE
  refine Goes.seq (Goes.region ?_)
  refine GoL.stepS rfl rfl (bxA rfl H ?_); clear H; intro b2 w hb2 H
  refine GoL.stepS rfl rfl (bxA rfl H ?_); clear H; intro b3 w hb3 H
  refine GoL.stepS rfl rfl (asI rfl ?_)
  refine GoL.nil ?_
  refine Goes.seq ?_
  refine Goes.regionD0 mixed (by kernel_rfl) 14 H ?_
  first | refine Ver.read (v := .pointer _) 0 rfl (by kernel_rfl) (fun M' L' w hM H => r_fieldAddr0 fo90_0 rfl ⟨rfl, rfl⟩) ?_ | refine Ver.read (v := .pointer _) 0 rfl (by kernel_rfl) (fun M' L' w hM H => r_fieldAddr fo90_0 rfl ⟨rfl, rfl⟩) ?_
  refine Ver.read (v := .int _ _) 1 rfl (by kernel_rfl) (fun M' L' w hM H => ldI tt3 rfl (H.own (by repeat constructor)) (by rfl) ⟨rfl, rfl⟩) ?_
  first | refine Ver.read (v := .pointer _) 2 rfl (by kernel_rfl) (fun M' L' w hM H => r_fieldAddr0 fo90_0 rfl ⟨rfl, rfl⟩) ?_ | refine Ver.read (v := .pointer _) 2 rfl (by kernel_rfl) (fun M' L' w hM H => r_fieldAddr fo90_0 rfl ⟨rfl, rfl⟩) ?_
  refine Ver.read (v := .int _ _) 3 rfl (by kernel_rfl) (fun M' L' w hM H => ldI tt3 rfl (H.own (by repeat constructor)) (by rfl) ⟨rfl, rfl⟩) ?_
  first | refine Ver.read (v := .pointer _) 5 rfl (by kernel_rfl) (fun M' L' w hM H => r_fieldAddr0 fo90_1 rfl ⟨rfl, rfl⟩) ?_ | refine Ver.read (v := .pointer _) 5 rfl (by kernel_rfl) (fun M' L' w hM H => r_fieldAddr fo90_1 rfl ⟨rfl, rfl⟩) ?_
  refine Ver.read (v := .int _ _) 6 rfl (by kernel_rfl) (fun M' L' w hM H => ldI tt3 rfl (H.own (by repeat constructor)) (by rfl) ⟨rfl, rfl⟩) ?_
  first | refine Ver.read (v := .pointer _) 7 rfl (by kernel_rfl) (fun M' L' w hM H => r_fieldAddr0 fo90_1 rfl ⟨rfl, rfl⟩) ?_ | refine Ver.read (v := .pointer _) 7 rfl (by kernel_rfl) (fun M' L' w hM H => r_fieldAddr fo90_1 rfl ⟨rfl, rfl⟩) ?_
  refine Ver.read (v := .int _ _) 8 rfl (by kernel_rfl) (fun M' L' w hM H => ldI tt3 rfl (H.own (by repeat constructor)) (by rfl) ⟨rfl, rfl⟩) ?_
  refine Ver.next0 4 (by kernel_rfl) rfl (by kernel_rfl) ?_
  clear H; intro w H
  refine r_call cc89 (compare_spec) H ?_
  clear H; rintro v9 M9 L9 w hM9 ⟨rfl, rfl, rfl⟩ H
  refine ⟨_, hM9, H, ?_⟩
  refine Ver.bar0 9 (by kernel_rfl) rfl (by kernel_rfl) ?_
  clear H; intro w H
  refine r_call cc89 (compare_spec) H ?_
  clear H; rintro v14 M14 L14 w hM14 ⟨rfl, rfl, rfl⟩ H
  refine ⟨_, _, hM14, H, ?_⟩
  refine Ver.bar0 10 (by kernel_rfl) rfl (by kernel_rfl) ?_
  clear H; intro w H
  refine r_bsl (cells := [.int _ _, .int _ _]) tt54 tt3 rfl (by rfl) H ?_
  clear H; intro b15 w hb15 H
  refine ⟨_, _, RO.le.refl _, H, ?_⟩
  refine Ver.bar0 11 (by kernel_rfl) rfl (by kernel_rfl) ?_
  clear H; intro w H
  refine r_call cc88 or_spec H ?_
  clear H; rintro v16 M16 L16 w hM16 ⟨rfl, rfl⟩ H
  refine ⟨_, _, hM16, H, ?_⟩
  refine Ver.read (v := .int _ _) 12 rfl (by kernel_rfl) (fun M' L' w hM H => asI rfl ⟨rfl, rfl⟩) ?_
  refine Ver.fin0 (by kernel_rfl) ?_
  clear H; intro w H
  exact Goes.ret (ret1 (v := .int _ _) rfl rfl rfl H.nil ⟨rfl, rfl⟩)

end Go.Proofs.YtlcpdkckldlceaaGreatDoor
