import Derived.Test.YtocfcpicleomcaaDoorMT10
import Derived.Test.YtocfcpicleomcaaDoorMT5
import Derived.Test.YtocfcpicleomcaaDoorMT2
import Derived.Test.YtocfcpicleomcaaDoorMT8
import Derived.Test.YtocfcpicleomcaaDoorMT9
import Derived.Test.YtocfcpicleomcaaDoorMT6
import Derived.Test.YtocfcpicleomcaaDoorMT3
namespace Go.Proofs.YtocfcpicleomcaaDoor.X
set_option maxHeartbeats 16000000
set_option maxRecDepth 100000
open Go.RowKit Go.Proofs.YtocfcpicleomcaaDoorW.PrintWords Go.Proofs.YtocfcpicleomcaaDoorW.PrintLast Go.Proofs.YtocfcpicleomcaaDoorW.PrintMore
set_option linter.unusedVariables false
set_option linter.unusedSimpArgs false
section
variable {W n : Nat} {ac : List Bool} {ns : List (List Int)} {cl : List Int} {t s0 : Int}
def SameC (W : Nat) (ns : List (List Int)) (g : Int → Int) (a b : Int) : Prop := g a = g b ∧ ∀ c, 0 ≤ c → c < (W : Int) → g (stp ns a c) = g (stp ns b c)
theorem SameC.symm {g : Int → Int} {a b : Int} (h : SameC W ns g a b) : SameC W ns g b a := ⟨h.1.symm, fun c c0 c1 => (h.2 c c0 c1).symm⟩
theorem SameC.trans {g : Int → Int} {a b c : Int} (h : SameC W ns g a b) (h2 : SameC W ns g b c) : SameC W ns g a c := ⟨h.1.trans h2.1, fun d c0 c1 => (h.2 d c0 c1).trans (h2.2 d c0 c1)⟩
theorem wrap_small {x : Int} (h0 : 0 ≤ x) (h1 : x ≤ 1000000000) : wrap64 (x + 1) = x + 1 := by unfold wrap64; omega
theorem alike_law (hT : TableOK W n ns) (hcl : cl.length = n) (hW : W ≤ 1000) {a b : Int} (a0 : 0 ≤ a) (a1 : a < (n : Int)) (b0 : 0 ≤ b) (b1 : b < (n : Int)) :
  ∀ (d k : Nat) (c : Int), 0 ≤ c → c + d = (W : Int) → d < k → ∃ B, spec_l01Alike.l0 k cl a b c t s0 ac ns = some (B, t, s0) ∧ (B = true ↔ ∀ c', c ≤ c' → c' < (W : Int) → rd cl (stp ns a c') = rd cl (stp ns b c')) := by
 have hra := hT.2 _ (hT.row a0 a1); have hrb := hT.2 _ (hT.row b0 b1); (have la : ((rd_L2 ns a).length : Int) = (W : Int) := by rw [show rd_L2 ns a = ns.getD a.toNat [] from rfl, hra.1]); (have lb : ((rd_L2 ns b).length : Int) = (W : Int) := by rw [show rd_L2 ns b = ns.getD b.toNat [] from rfl, hrb.1]); intro d
 induction d with
 | zero =>
  intro k c c0 hc hk; obtain ⟨k, rfl⟩ : ∃ m, k = m + 1 := ⟨k - 1, by omega⟩; refine ⟨true, ?_, by simp; intro c' h1 h2; omega⟩; simp only [spec_l01Alike.l0]; rw [if_pos a0, if_pos (by rw [hT.1]; exact a1), if_neg (by rw [la]; omega)]
 | succ d ih =>
  intro k c c0 hc hk; obtain ⟨k, rfl⟩ : ∃ m, k = m + 1 := ⟨k - 1, by omega⟩; have sa := hT.stpd a0 a1 c0 (by omega); have sb := hT.stpd b0 b1 c0 (by omega); simp only [spec_l01Alike.l0]; rw [show rd (rd_L2 ns a) c = stp ns a c from rfl, show rd (rd_L2 ns b) c = stp ns b c from rfl, if_pos a0, if_pos (by rw [hT.1]; exact a1), if_pos (by rw [la]; omega), if_pos c0, if_pos sa.1, if_pos (by rw [hcl]; exact sa.2), if_pos b0, if_pos (by rw [hT.1]; exact b1), if_pos (by rw [lb]; omega), if_pos sb.1, if_pos (by rw [hcl]; exact sb.2)]; by_cases e : rd cl (stp ns a c) = rd cl (stp ns b c)
  ·rw [if_pos e, wrap_small c0 (by omega)]; obtain ⟨B, h, hB⟩ := ih k (c + 1) (by omega) (by omega) (by omega); refine ⟨B, h, hB.trans ⟨fun h c' h1 h2 => ?_, fun h c' h1 h2 => h c' (by omega) h2⟩⟩; by_cases e2 : c' = c
   ·rw [e2]; exact e
   ·exact h c' (by omega) h2
  ·rw [if_neg e]; exact ⟨false, rfl, by simp; exact ⟨c, by omega, by omega, e⟩⟩
/-- The search among the first ones. -/
theorem search_law (hT : TableOK W n ns) (hcl : cl.length = n) (hW : W ≤ 1000) (hn : n ≤ 1000000) {s : Int} (q0 : 0 ≤ s) (q1 : s < (n : Int)) {x7 x8 : List Int} (h7 : x7.length = n) (hneg : rd x7 s < 0) (h8 : ∀ f ∈ x8, 0 ≤ f ∧ f < (n : Int)) (h8l : x8.length ≤ n) {r : List Int × Int × Int × Int} {K : Nat}
  (hnone : (∀ f ∈ x8, ¬ SameC W ns (rd cl) f s) → ∀ k, K ≤ k → spec_l01Finer.l0 k cl (n : Int) (x7.set s.toNat (x8.length : Int)) (x8 ++ [s]) (s + 1) t s0 ac ns = some r)
  (hsome : ∀ (i : Nat) (f : Int), x8[i]? = some f → SameC W ns (rd cl) f s → ∀ k, K ≤ k → spec_l01Finer.l0 k cl (n : Int) (x7.set s.toNat (i : Int)) x8 (s + 1) t s0 ac ns = some r) :
  ∀ (d k j : Nat), j + d = x8.length → (∀ (i : Nat) f, i < j → x8[i]? = some f → ¬ SameC W ns (rd cl) f s) → K + 2 * d + W + 10 ≤ k → spec_l01Finer.l1 k cl (n : Int) x7 x8 s (j : Int) t s0 ac ns = some r := by
 intro d
 induction d with
 | zero =>
  intro k j hj hno hk; obtain ⟨k, rfl⟩ : ∃ m, k = m + 2 := ⟨k - 2, by omega⟩; rw [spec_l01Finer.l1, if_neg (by omega), spec_l01Finer.j2, if_neg (by simp), if_pos q0, if_pos (by rw [h7]; exact q1), if_pos hneg, if_pos (by omega), wrap_small q0 (by omega)]; refine hnone (fun f hf => ?_) k (by omega); obtain ⟨i, hi, he⟩ := List.getElem_of_mem hf; exact hno i f (by omega) (by rw [List.getElem?_eq_getElem hi, he])
 | succ d ih =>
  intro k j hj hno hk; obtain ⟨k, rfl⟩ : ∃ m, k = m + 2 := ⟨k - 2, by omega⟩; (have hj2 : j < x8.length := by omega); have hget : x8[j]? = some (rd x8 (j : Int)) := get_rd (i := (j : Int)) (by omega) (by omega); have hf := h8 _ (List.mem_of_getElem? hget); rw [spec_l01Finer.l1, if_pos (by omega), if_pos q0, if_pos (by rw [h7]; exact q1), spec_l01Finer.j2, if_pos (by simpa using hneg), if_pos (by omega), if_pos (by omega), if_pos hf.1, if_pos (by rw [hcl]; exact hf.2), if_pos q0, if_pos (by rw [hcl]; exact q1)]
  have next : ¬ SameC W ns (rd cl) (rd x8 (j : Int)) s → spec_l01Finer.l1 k cl (n : Int) x7 x8 s (wrap64 ((j : Int) + 1)) t s0 ac ns = some r := by
   intro hns; rw [wrap_small (by omega) (by omega)]
   exact ih k (j + 1) (by omega) (fun i f hi hif => by
    by_cases e : i = j
    ·subst e; rw [hget] at hif; obtain rfl := Option.some.inj hif; exact hns
    ·exact hno i f (by omega) hif) (by omega)
  by_cases e : rd cl (rd x8 (j : Int)) = rd cl s
  ·rw [if_pos e]; obtain ⟨B, hB, hBi⟩ := alike_law (t := t) (s0 := s0) (ac := ac) hT hcl hW hf.1 hf.2 q0 q1 W k 0 (by omega) (by omega) (by omega); rw [spec_l01Alike.f, hB]; simp only [Option.bind_some]; by_cases hBt : B = true
   ·have hs : SameC W ns (rd cl) (rd x8 (j : Int)) s := ⟨e, fun c c0 c1 => (hBi.1 hBt) c c0 c1⟩; rw [if_pos hBt, if_pos (by rw [h7]; exact q1), wrap_small (by omega) (by omega)]
    -- the next round ends the search, since the class is there now
    obtain ⟨k, rfl⟩ : ∃ m, k = m + 2 := ⟨k - 2, by omega⟩; have hrd : rd (x7.set s.toNat (j : Int)) s = (j : Int) := rd_set_same q0 (by rw [h7]; exact q1)
    have key : spec_l01Finer.j2 (k + 1) cl (n : Int) (x7.set s.toNat (j : Int)) x8 s ((j : Int) + 1) false t s0 ac ns = some r := by
     rw [spec_l01Finer.j2, if_neg (by simp), if_pos q0, if_pos (by rw [List.length_set, h7]; exact q1), if_neg (by rw [hrd]; omega), wrap_small q0 (by omega)]; exact hsome j _ hget hs k (by omega)
    rw [spec_l01Finer.l1]; by_cases e3 : (j : Int) + 1 < (x8.length : Int)
    ·rw [if_pos e3, if_pos q0, if_pos (by rw [List.length_set, h7]; exact q1), hrd, show decide ((j : Int) < 0) = false by simp]; exact key
    ·rw [if_neg e3]; exact key
   ·rw [if_neg hBt]; exact next (fun hs => hBt (hBi.2 (fun c' h1 h2 => hs.2 c' h1 h2)))
  ·rw [if_neg e]; exact next (fun hs => e hs.1)
/-- What holds of the classes found so far. -/
structure FindOK (W n : Nat) (ns : List (List Int)) (g : Int → Int) (s : Nat) (x7 x8 : List Int) : Prop where
 l7 : x7.length = n
 r8 : ∀ f ∈ x8, 0 ≤ f ∧ f < (s : Int)
 l8 : x8.length ≤ s
 apart : ∀ (i j : Nat) a b, x8[i]? = some a → x8[j]? = some b → SameC W ns g a b → i = j
 cls : ∀ i : Int, 0 ≤ i → i < (s : Int) → ∃ (j : Nat) (f : Int), rd x7 i = (j : Int) ∧ x8[j]? = some f ∧ SameC W ns g f i
 own : ∀ (j : Nat) f, x8[j]? = some f → rd x7 f = (j : Int)
theorem finer_l0 (hT : TableOK W n ns) (hcl : cl.length = n) (hW : W ≤ 1000) (hn : n ≤ 1000000) :
  ∀ (d : Nat) (s : Nat) (x7 x8 : List Int), s + d = n → FindOK W n ns (rd cl) s x7 x8 → ∃ (l : List Int) (x : List Int), FindOK W n ns (rd cl) n l x ∧ ∀ k, d * (2 * n + W + 20) + 1 ≤ k → spec_l01Finer.l0 k cl (n : Int) x7 x8 (s : Int) t s0 ac ns = some (l, (x.length : Int), t, s0) := by
 intro d
 induction d with
 | zero =>
  intro s x7 x8 hs hF; (have : s = n := by omega); subst this; refine ⟨x7, x8, hF, fun k hk => ?_⟩; obtain ⟨k, rfl⟩ : ∃ m, k = m + 1 := ⟨k - 1, by omega⟩; rw [spec_l01Finer.l0, if_neg (by omega)]
 | succ d ih =>
  intro s x7 x8 hs hF; (have q1 : (s : Int) < (n : Int) := by omega); (have hl7 : (x7.set (s : Int).toNat (-1)).length = n := by rw [List.length_set]; exact hF.l7); (have hneg : rd (x7.set (s : Int).toNat (-1)) (s : Int) < 0 := by rw [rd_set_same (by omega) (by rw [hF.l7]; exact q1)]; omega); (have hother : ∀ (v i : Int), 0 ≤ i → i ≠ (s : Int) → rd (((x7.set (s : Int).toNat (-1))).set (s : Int).toNat v) i = rd x7 i := fun v i h0 hi => by rw [rd_set_other (by omega) h0 (fun e => hi e.symm), rd_set_other (by omega) h0 (fun e => hi e.symm)]); have hself : ∀ v : Int, rd (((x7.set (s : Int).toNat (-1))).set (s : Int).toNat v) (s : Int) = v := fun v => rd_set_same (by omega) (by rw [hl7]; exact q1); by_cases hex : ∃ (i : Nat) (f : Int), x8[i]? = some f ∧ SameC W ns (rd cl) f (s : Int)
  ·obtain ⟨i, f, hif, hsame⟩ := hex
   have hF2 : FindOK W n ns (rd cl) (s + 1) ((x7.set (s : Int).toNat (-1)).set (s : Int).toNat (i : Int)) x8 := by
    refine ⟨by rw [List.length_set]; exact hl7, fun f hf => ?_, by have := hF.l8; omega, hF.apart, ?_, ?_⟩
    ·have := hF.r8 f hf; omega
    ·intro i' h0 h1; by_cases e : i' = (s : Int)
     ·rw [e]; exact ⟨i, f, hself _, hif, hsame⟩
     ·rw [hother _ i' h0 e]; exact hF.cls i' h0 (by omega)
    ·intro j f' hj; have := hF.r8 f' (List.mem_of_getElem? hj); rw [hother _ f' this.1 (by omega)]; exact hF.own j f' hj
   obtain ⟨l, x, hFn, hr⟩ := ih (s + 1) _ _ (by omega) hF2; refine ⟨l, x, hFn, fun k hk => ?_⟩; rw [Nat.add_mul, Nat.one_mul] at hk; obtain ⟨k, rfl⟩ : ∃ m, k = m + 1 := ⟨k - 1, by omega⟩; rw [spec_l01Finer.l0, if_pos q1, if_pos (by omega), if_pos (by rw [hF.l7]; exact q1)]; (have h8l : x8.length ≤ n := by have := hF.l8; omega); refine search_law (K := d * (2 * n + W + 20) + 1) (x8 := x8) hT hcl hW hn (by omega) q1 hl7 hneg (fun f hf => by have := hF.r8 f hf; omega) h8l (fun hno => absurd hsame (hno f (List.mem_of_getElem? hif))) (fun i2 f2 hif2 hs2 k' hk' => ?_) x8.length k 0 (by omega) (fun _ _ h => by omega) (by omega); have : i2 = i := hF.apart i2 i f2 f hif2 hif (hs2.trans hsame.symm); subst this; rw [show (s : Int) + 1 = ((s + 1 : Nat) : Int) by omega]; exact hr k' hk'
  ·have hno : ∀ f ∈ x8, ¬ SameC W ns (rd cl) f (s : Int) := by
    intro f hf hsame; obtain ⟨i, hi, he⟩ := List.getElem_of_mem hf; exact hex ⟨i, f, by rw [List.getElem?_eq_getElem hi, he], hsame⟩
   have hF2 : FindOK W n ns (rd cl) (s + 1) ((x7.set (s : Int).toNat (-1)).set (s : Int).toNat (x8.length : Int)) (x8 ++ [(s : Int)]) := by
    have hlast : ∀ (j : Nat) (a : Int), (x8 ++ [(s : Int)])[j]? = some a → (x8[j]? = some a ∧ j < x8.length) ∨ (j = x8.length ∧ a = (s : Int)) := by
     intro j a hj; by_cases e : j < x8.length
     ·rw [List.getElem?_append_left e] at hj; exact .inl ⟨hj, e⟩
     ·have := (List.getElem?_eq_some_iff.1 hj).1; simp at this; (have e2 : j = x8.length := by omega); subst e2; rw [List.getElem?_append_right (Nat.le_refl _)] at hj; simp at hj; exact .inr ⟨rfl, hj.symm⟩
    refine ⟨by rw [List.length_set]; exact hl7, ?_, by have := hF.l8; simp; omega, ?_, ?_, ?_⟩
    ·intro f hf
     rcases List.mem_append.1 hf with hf | hf
     ·have := hF.r8 f hf; omega
     ·simp at hf; omega
    ·intro i j a b hi hj hab
     rcases hlast i a hi with ⟨h1, h2⟩ | ⟨h1, h2⟩ <;> rcases hlast j b hj with ⟨h3, h4⟩ | ⟨h3, h4⟩
     ·exact hF.apart i j a b h1 h3 hab
     ·subst h4; exact absurd hab (hno a (List.mem_of_getElem? h1))
     ·subst h2; exact absurd hab.symm (hno b (List.mem_of_getElem? h3))
     ·omega
    ·intro i' h0 h1; by_cases e : i' = (s : Int)
     ·rw [e]; exact ⟨x8.length, (s : Int), hself _, by simp, rfl, fun c _ _ => rfl⟩
     ·rw [hother _ i' h0 e]; obtain ⟨j, f, h2, h3, h4⟩ := hF.cls i' h0 (by omega); exact ⟨j, f, h2, getE_app h3, h4⟩
    ·intro j f' hj
     rcases hlast j f' hj with ⟨h1, h2⟩ | ⟨h1, h2⟩
     ·have := hF.r8 f' (List.mem_of_getElem? h1); rw [hother _ f' this.1 (by omega)]; exact hF.own j f' h1
     ·rw [h2, h1]; exact hself _
   obtain ⟨l, x, hFn, hr⟩ := ih (s + 1) _ _ (by omega) hF2; refine ⟨l, x, hFn, fun k hk => ?_⟩; rw [Nat.add_mul, Nat.one_mul] at hk; obtain ⟨k, rfl⟩ : ∃ m, k = m + 1 := ⟨k - 1, by omega⟩; rw [spec_l01Finer.l0, if_pos q1, if_pos (by omega), if_pos (by rw [hF.l7]; exact q1)]; (have h8l : x8.length ≤ n := by have := hF.l8; omega); refine search_law (K := d * (2 * n + W + 20) + 1) (x8 := x8) hT hcl hW hn (by omega) q1 hl7 hneg (fun f hf => by have := hF.r8 f hf; omega) h8l (fun _ k' hk' => ?_) (fun i2 f2 hif2 hs2 k' hk' => absurd hs2 (hno f2 (List.mem_of_getElem? hif2))) x8.length k 0 (by omega) (fun _ _ h => by omega) (by omega); rw [show (s : Int) + 1 = ((s + 1 : Nat) : Int) by omega]; exact hr k' hk'
theorem finer_law (hT : TableOK W n ns) (hcl : cl.length = n) (hW : W ≤ 1000) (hn : n ≤ 1000000) : ∃ (l : List Int) (m : Nat), l.length = n ∧ m ≤ n ∧ Finer W n ns (rd cl) (rd l) m ∧ ∀ k, n * (2 * n + W + 20) + 1 ≤ k → spec_l01Finer.f k t s0 ac ns cl = some (l, (m : Int), t, s0) := by
 obtain ⟨l, x, hF, hr⟩ := finer_l0 (t := t) (s0 := s0) (ac := ac) hT hcl hW hn n 0 (List.replicate n 0) [] (by omega) ⟨by simp, by simp, by simp, by simp, fun i h0 h1 => by omega, by simp⟩; refine ⟨l, x.length, hF.l7, hF.l8, ⟨?_, ?_, ?_⟩, fun k hk => ?_⟩
 ·intro i j i0 i1 j0 j1; obtain ⟨a, fa, h1, h2, h3⟩ := hF.cls i i0 i1; obtain ⟨b, fb, h4, h5, h6⟩ := hF.cls j j0 j1; rw [h1, h4]; constructor
  ·intro e; (have : a = b := by omega); subst this; rw [h2] at h5; obtain rfl := Option.some.inj h5; exact h3.symm.trans h6
  ·intro e; have := hF.apart a b fa fb h2 h5 ((h3.trans e).trans h6.symm); rw [this]
 ·intro i i0 i1; obtain ⟨a, fa, h1, h2, h3⟩ := hF.cls i i0 i1; have := (List.getElem?_eq_some_iff.1 h2).1; rw [h1]; omega
 ·intro k hk; have h8 := hF.r8 x[k] (List.getElem_mem hk); exact ⟨x[k], h8.1, h8.2, hF.own k x[k] (List.getElem?_eq_getElem hk)⟩
 ·unfold spec_l01Finer.f; rw [if_pos (by omega), if_pos (by omega), hcl]; simp only [Int.toNat_natCast]; exact hr k hk
end
section
variable {W n : Nat} {ac : List Bool} {ns : List (List Int)} {t : Int}
theorem tclass_some (hT : TableOK W n ns) (hW : W ≤ 1000) (hn : n ≤ 1000000) {k : Nat} (hk : n * (2 * n + W + 20) + 1 ≤ k) : ∀ (f count : Nat) (cl : List Int), cl.length = n → ClassOK W n ac ns (rd cl) → count ≤ n → (∀ k : Nat, k < count → ∃ i, 0 ≤ i ∧ i < (n : Int) ∧ rd cl i = (k : Int)) → n + 1 ≤ f + count →
  ∃ (g : List Int) (m : Nat), tclassF k t ac ns f (count : Int) cl = some (g, (m : Int)) ∧ g.length = n ∧ m ≤ n ∧ ClassEq W n ac ns (rd g) ∧ ∀ i, 0 ≤ i → i < (n : Int) → 0 ≤ rd g i ∧ rd g i < (m : Int) := by
 intro f
 induction f with
 | zero => intro count cl _ _ h1 _ h2; omega
 | succ f ih =>
  intro count cl hcl hC hc hm hf; obtain ⟨l, m, hl, hmn, hfin, hr⟩ := finer_law (t := t) (s0 := 0) (ac := ac) hT hcl hW hn; rw [tclassF, hr k hk]; simp only [Option.bind_some, and_self, if_true]; by_cases e : m = count
  ·subst e; rw [if_pos rfl]; exact ⟨l, m, rfl, hl, hmn, hC.eq hT hfin hm, hfin.lo⟩
  ·rw [if_neg (by omega)]; have := hfin.le hm; exact ih m l hl (hC.next hT hfin) hmn hfin.met (by omega)
/-- 'l01Tidied', behind 'l01Right', makes the tidy table of the first state's language. -/
theorem tidiedF_law (hT : TableOK W n ns) (hn : ac.length = n) (h0 : 0 < n) (hW : W ≤ 1000) (hn2 : n ≤ 1000000) {k f : Nat} (hk : n * (2 * n + W + 20) + 1 ≤ k) (hf : n + 2 ≤ f) : ∃ r, tidiedF k f t ac ns = some r ∧ tidyD W f (lng W ac ns 0) = some r := by
 obtain ⟨g, m, hg, hgl, hmn, hE, hb⟩ := tclass_some (ac := ac) (t := t) hT hW hn2 hk f 0 (bitL ac) (by simp [bitL, hn]) (bitL_class hn) (by omega) (fun k hk => by omega) (by omega); have hb0 := hb 0 (by omega) (by omega); obtain ⟨r, hr, hd⟩ := tmain_law (m := m) hT hn (by omega) h0 hE hgl hb hf; refine ⟨r, ?_, hd⟩; unfold tidiedF; rw [show ((0 : Nat) : Int) = 0 from rfl] at hg; rw [hg]; simp only [Option.bind_some]; rw [if_pos (by omega), at1_in (by omega) (by omega)]; simp only [Option.bind_some]; rw [show rdOf 0 g 0 = rd g 0 from rfl, if_pos hb0]
 simpa using hr
end
section
variable {W n N kd : Nat} {ac : List Bool} {ns : List (List Int)} {pads : List Int} {tapes size : Int}
/-- The numbers of the pairs that were met. -/
structure NumOK (N : Nat) (nu l : List Int) : Prop where
 len : nu.length = N
 rng : ∀ v ∈ l, 0 ≤ v ∧ v < (N : Int)
 nod : l.Nodup
 num : ∀ v : Int, 0 ≤ v → v < (N : Int) → (rd nu v < 0 ∧ v ∉ l) ∨ ∃ i : Nat, rd nu v = (i : Int) ∧ l[i]? = some v
theorem NumOK.push {nu l : List Int} (h : NumOK N nu l) {v : Int} (v0 : 0 ≤ v) (v1 : v < (N : Int)) (hx : rd nu v < 0) : NumOK N (nu.set v.toNat (l.length : Int)) (l ++ [v]) := by
 have hnew : v ∉ l := by
  rcases h.num v v0 v1 with ⟨_, h2⟩ | ⟨i, h2, _⟩
  ·exact h2
  ·omega
 refine ⟨by simp [h.len], ?_, ?_, ?_⟩
 ·intro s hs
  rcases List.mem_append.1 hs with hs | hs
  ·exact h.rng s hs
  ·simp at hs; subst hs; exact ⟨v0, v1⟩
 ·exact List.nodup_append.2 ⟨h.nod, by simp, fun a ha b hb => by simp at hb; subst hb; exact fun he => hnew (he ▸ ha)⟩
 ·intro u u0 u1; by_cases e : v = u
  ·subst e; right; exact ⟨l.length, rd_set_same v0 (by rw [h.len]; exact v1), by simp⟩
  ·rw [rd_set_other v0 u0 e]
   rcases h.num u u0 u1 with ⟨h2, h3⟩ | ⟨i, h2, h3⟩
   ·left; refine ⟨h2, fun hm => ?_⟩
    rcases List.mem_append.1 hm with hm | hm
    ·exact h3 hm
    ·simp at hm; exact e hm.symm
   ·right; exact ⟨i, h2, getE_app h3⟩
def endE (pads : List Int) (p c : Int) : Int := if bits .andNot .i64 p (rd pads c) = 0 then rd pads c else -1
/-- An entry of a row: no state, or a pair that was met. -/
def EntryOK (size : Int) (pads : List Int) (ns : List (List Int)) (s p : Int) (l : List Int) (c x : Int) : Prop :=
 (endE pads p c < 0 ∧ x = -1) ∨ ∃ q : Nat, x = (q : Int) ∧ 0 ≤ endE pads p c ∧ l[q]? = some (stp ns s c * size + endE pads p c)
theorem EntryOK.app {s p : Int} {l d : List Int} {c x : Int} (h : EntryOK size pads ns s p l c x) : EntryOK size pads ns s p (l ++ d) c x := by
 rcases h with h | ⟨q, h1, h2, h3⟩
 ·exact .inl h
 ·exact .inr ⟨q, h1, h2, getE_app h3⟩
structure SizeOK (W n N : Nat) (size tapes : Int) (kd : Nat) (pads : List Int) : Prop where
 s1 : 1 ≤ size
 s8 : size ≤ 8
 N : (N : Int) = (n : Int) * size
 n : n ≤ 100000
 pl : pads.length = W
 pr : ∀ x ∈ pads, 0 ≤ x ∧ x < size
 en : ∀ p c, 0 ≤ p → p < size → 0 ≤ c → c < (W : Int) → spec_l01Ended.f kd tapes p c = some (endE pads p c)
theorem key_bound (hs : SizeOK W n N size tapes kd pads) {q e : Int} (q0 : 0 ≤ q) (q1 : q < (n : Int)) (e0 : 0 ≤ e) (e1 : e < size) : 0 ≤ q * size + e ∧ q * size + e < (N : Int) ∧ wrap64 (wrap64 (q * size) + e) = q * size + e ∧ (q * size + e) / size = q ∧ (q * size + e) % size = e := by
 have h0 : 0 ≤ q * size := Int.mul_nonneg q0 (by have := hs.s1; omega); have h1 : (q + 1) * size ≤ (n : Int) * size := Int.mul_le_mul_of_nonneg_right (by omega) (by have := hs.s1; omega); rw [Int.add_mul, Int.one_mul] at h1; have h2 : (n : Int) * size ≤ 100000 * 8 := Int.mul_le_mul (by have := hs.n; omega) hs.s8 (by have := hs.s1; omega) (by omega); have hN := hs.N; refine ⟨by omega, by omega, ?_, ?_, ?_⟩
 ·unfold wrap64; omega
 ·rw [Int.add_comm, Int.add_mul_ediv_right _ _ (by have := hs.s1; omega), Int.ediv_eq_zero_of_lt e0 e1, Int.zero_add]
 ·rw [Int.add_comm, Int.add_mul_emod_self_right, Int.emod_eq_of_lt e0 e1]
theorem key_parts (hs : SizeOK W n N size tapes kd pads) {v : Int} (v0 : 0 ≤ v) (v1 : v < (N : Int)) : wrap64 (Int.tdiv v size) = v / size ∧ Int.tmod v size = v % size ∧ 0 ≤ v / size ∧ v / size < (n : Int) ∧ 0 ≤ v % size ∧ v % size < size := by
 have hsz := hs.s1; have h0 : 0 ≤ v / size := Int.ediv_nonneg v0 (by omega); have h1 : v / size < (n : Int) := Int.ediv_lt_of_lt_mul (by omega) (by rw [← hs.N]; exact v1); refine ⟨?_, Int.tmod_eq_emod_of_nonneg v0, h0, h1, Int.emod_nonneg _ (by omega), Int.emod_lt_of_pos _ (by omega)⟩; rw [Int.tdiv_eq_ediv_of_nonneg v0]; have := hs.n; unfold wrap64; omega
theorem endE_range (hs : SizeOK W n N size tapes kd pads) {p c : Int} (c0 : 0 ≤ c) (c1 : c < (W : Int)) : endE pads p c = -1 ∨ (0 ≤ endE pads p c ∧ endE pads p c < size) := by
 unfold endE
 split
 ·exact .inr (rd_range hs.pr c0 (by rw [hs.pl]; exact c1))
 ·exact .inl rfl
theorem rrow_some (hs : SizeOK W n N size tapes kd pads) (hT : TableOK W n ns) {li : Int} (l0 : 0 ≤ li) (l1 : li < (N : Int)) :
  ∀ (m c : Nat) (nu l row : List Int), c + m = W → NumOK N nu l → ∃ nu1 d e, rrowF kd tapes size (rdOf [] ns (li / size)) li m c nu l row = some (nu1, l ++ d, row ++ e) ∧ NumOK N nu1 (l ++ d) ∧ e.length = m ∧ ∀ j : Nat, j < m → ∃ x, e[j]? = some x ∧ EntryOK size pads ns (li / size) (li % size) (l ++ d) ((c + j : Nat) : Int) x := by
 obtain ⟨k1, k2, k3, k4, k5, k6⟩ := key_parts hs l0 l1; intro m
 induction m with
 | zero => intro c nu l row _ hN; exact ⟨nu, [], [], by simp [rrowF], by simpa using hN, rfl, fun j hj => by omega⟩
 | succ m ih =>
  intro c nu l row hc hN; (have c1 : (c : Int) < (W : Int) := by omega); rw [rrowF, k2, hs.en _ _ k5 k6 (by omega) c1]; simp only [Option.bind_some]
  rcases endE_range hs (p := li % size) (c := (c : Int)) (by omega) c1 with he | ⟨e0, e1⟩
  ·rw [if_pos (by omega)]; obtain ⟨nu1, d, e, h1, h2, h3, h4⟩ := ih (c + 1) nu l (row ++ [-1]) (by omega) hN; refine ⟨nu1, d, -1 :: e, by simpa using h1, h2, by simp [h3], fun j hj => ?_⟩
   cases j with
   | zero => exact ⟨-1, by simp, .inl ⟨by rw [Nat.add_zero]; omega, rfl⟩⟩
   | succ j =>
    obtain ⟨x, hx, hx2⟩ := h4 j (by omega); exact ⟨x, by simpa using hx, by rw [show c + (j + 1) = c + 1 + j by omega]; exact hx2⟩
  ·rw [if_neg (by omega)]; have hrow := hT.row k3 k4; rw [at1_in (by omega) (by rw [show (rdOf [] ns (li / size)).length = W from (hT.2 _ hrow).1]; exact c1)]; simp only [Option.bind_some]; have est : rdOf 0 (rdOf [] ns (li / size)) (c : Int) = stp ns (li / size) (c : Int) := rfl; rw [est]; have hst := hT.stpd k3 k4 (c := (c : Int)) (by omega) c1; obtain ⟨b1, b2, b3, b4, b5⟩ := key_bound hs hst.1 hst.2 e0 e1; rw [b3, at1_in b1 (by rw [hN.len]; exact b2)]; simp only [Option.bind_some]; rw [show rdOf 0 nu (stp ns (li / size) (c : Int) * size + endE pads (li % size) (c : Int)) = rd nu (stp ns (li / size) (c : Int) * size + endE pads (li % size) (c : Int)) from rfl]
   rcases hN.num _ b1 b2 with ⟨h2, h3⟩ | ⟨i, h2, h3⟩
   ·rw [if_pos h2]; have hlen := nodup_len l ((List.range N).map (fun k : Nat => (k : Int))) hN.nod (fun v hv => by have := hN.rng v hv; exact List.mem_map.2 ⟨v.toNat, List.mem_range.2 (by omega), by omega⟩)
    have hlen2 : N ≤ 800000 := by
     have := hs.N; have h5 : (n : Int) * size ≤ 100000 * 8 := Int.mul_le_mul (by have := hs.n; omega) hs.s8 (by have := hs.s1; omega) (by omega); omega
    rw [if_pos (by simp at hlen; omega)]; obtain ⟨nu1, d, e, h5, h6, h7, h8⟩ := ih (c + 1) _ _ (row ++ [(l.length : Int)]) (by omega) (hN.push b1 b2 h2); refine ⟨nu1, _ :: d, (l.length : Int) :: e, by simpa using h5, by simpa using h6, by simp [h7], fun j hj => ?_⟩
    cases j with
    | zero => exact ⟨_, by simp, .inr ⟨l.length, rfl, by rw [Nat.add_zero]; exact e0, by simp⟩⟩
    | succ j =>
     obtain ⟨x, hx, hx2⟩ := h8 j (by omega); exact ⟨x, by simpa using hx, by rw [show c + (j + 1) = c + 1 + j by omega]; simpa using hx2⟩
   ·rw [if_neg (by omega), h2]; obtain ⟨nu1, d, e, h5, h6, h7, h8⟩ := ih (c + 1) nu l (row ++ [(i : Int)]) (by omega) hN; refine ⟨nu1, d, (i : Int) :: e, by simpa using h5, h6, by simp [h7], fun j hj => ?_⟩
    cases j with
    | zero => exact ⟨_, by simp, .inr ⟨i, rfl, by rw [Nat.add_zero]; exact e0, by rw [Nat.add_zero]; exact getE_app h3⟩⟩
    | succ j =>
     obtain ⟨x, hx, hx2⟩ := h8 j (by omega); exact ⟨x, by simpa using hx, by rw [show c + (j + 1) = c + 1 + j by omega]; exact hx2⟩
/-- The rows made so far. -/
structure RmOK (W N : Nat) (size : Int) (pads : List Int) (ac : List Bool) (ns : List (List Int)) (nu l : List Int) (bs : List Bool) (rs : List (List Int)) : Prop where
 nu : NumOK N nu l
 len : rs.length = bs.length
 le : bs.length ≤ l.length
 acc : ∀ (i : Nat) b, bs[i]? = some b → ∃ v, l[i]? = some v ∧ b = rdOf false ac (v / size)
 row : ∀ (i : Nat) row, rs[i]? = some row → row.length = W ∧ ∃ v, l[i]? = some v ∧ ∀ j : Nat, j < W → ∃ x, row[j]? = some x ∧ EntryOK size pads ns (v / size) (v % size) l (j : Int) x
theorem rmain_some (hs : SizeOK W n N size tapes kd pads) (hT : TableOK W n ns) (hn : ac.length = n) :
  ∀ (f : Nat) (nu l : List Int) (bs : List Bool) (rs : List (List Int)), RmOK W N size pads ac ns nu l bs rs → N < f + bs.length → ∃ bsF rsF nuF lF, rmainF kd tapes size W ac ns f nu l bs rs = some (bsF, rsF, l ++ lF) ∧ RmOK W N size pads ac ns nuF (l ++ lF) bsF rsF ∧ bsF.length = (l ++ lF).length := by
 intro f
 induction f with
 | zero =>
  intro nu l bs rs hR hf; have hlen := nodup_len l ((List.range N).map (fun k : Nat => (k : Int))) hR.nu.nod (fun v hv => by have := hR.nu.rng v hv; exact List.mem_map.2 ⟨v.toNat, List.mem_range.2 (by omega), by omega⟩); have := hR.le; simp at hlen; omega
 | succ f ih =>
  intro nu l bs rs hR hf; rw [rmainF]
  cases e : l[bs.length]? with
  | none =>
   have := List.getElem?_eq_none_iff.1 e; have := hR.le; exact ⟨bs, rs, nu, [], by simp, by simpa using hR, by simp; omega⟩
  | some li =>
   simp only; obtain ⟨v0, v1⟩ := hR.nu.rng li (List.mem_of_getElem? e); obtain ⟨k1, k2, k3, k4, k5, k6⟩ := key_parts hs v0 v1; rw [k1, at1_in k3 (by rw [hT.1]; exact k4)]; simp only [Option.bind_some]; rw [at1_in k3 (by omega)]; simp only [Option.bind_some]; obtain ⟨nu1, d, e1, h1, h2, h3, h4⟩ := rrow_some hs hT v0 v1 W 0 nu l [] (by omega) hR.nu; rw [h1]; simp only [Option.bind_some, List.nil_append]; have hlt := (List.getElem?_eq_some_iff.1 e).1
   have hR2 : RmOK W N size pads ac ns nu1 (l ++ d) (bs ++ [rdOf false ac (li / size)]) (rs ++ [e1]) := by
    refine ⟨h2, by simp [hR.len], by simp; omega, ?_, ?_⟩
    ·intro i b hb; by_cases ei : i < bs.length
     ·rw [List.getElem?_append_left ei] at hb; obtain ⟨v, h5, h6⟩ := hR.acc i b hb; exact ⟨v, getE_app h5, h6⟩
     ·have hi : i = bs.length := by
       have := (List.getElem?_eq_some_iff.1 hb).1; simp at this; omega
      subst hi; rw [List.getElem?_append_right (Nat.le_refl _)] at hb; simp at hb; exact ⟨li, getE_app e, hb.symm⟩
    ·intro i row hr; by_cases ei : i < rs.length
     ·rw [List.getElem?_append_left ei] at hr; obtain ⟨h0, v, h5, h6⟩ := hR.row i row hr; refine ⟨h0, v, getE_app h5, fun j hj => ?_⟩; obtain ⟨x, hx, hx2⟩ := h6 j hj; exact ⟨x, hx, hx2.app⟩
     ·have hi : i = rs.length := by
       have := (List.getElem?_eq_some_iff.1 hr).1; simp at this; omega
      subst hi; rw [List.getElem?_append_right (Nat.le_refl _)] at hr; simp at hr; subst hr; refine ⟨h3, li, getE_app (by rw [hR.len]; exact e), fun j hj => ?_⟩; obtain ⟨x, hx, hx2⟩ := h4 j hj; exact ⟨x, hx, by rw [Nat.zero_add] at hx2; exact hx2⟩
   obtain ⟨bsF, rsF, nuF, lF, h5, h6, h7⟩ := ih nu1 (l ++ d) _ _ hR2 (by simp; omega); exact ⟨bsF, rsF, nuF, d ++ lF, by simpa using h5, by simpa using h6, by simpa using h7⟩
theorem rightF_law (hs : SizeOK W n N size tapes kd pads) (hT : TableOK W n ns) (hn : ac.length = n) {start : Int} (s0 : 0 ≤ start) (s1 : start < (n : Int)) {f : Nat} (hf : N < f) :
  ∃ r, rightF kd tapes size W N f start ac ns = some r ∧ 0 < r.1.length ∧ r.1.length ≤ N + 1 ∧ TableOK W r.1.length r.2 ∧ lng W r.1 r.2 0 = lngR W pads ac ns (start, 0) := by
 obtain ⟨b1, b2, b3, b4, b5⟩ := key_bound hs s0 s1 (e := 0) (by omega) (by have := hs.s1; omega); rw [Int.add_zero] at b1 b2 b4 b5
 have hw : wrap64 (start * size) = start * size := by
  have h2 : (n : Int) * size ≤ 100000 * 8 := Int.mul_le_mul (by have := hs.n; omega) hs.s8 (by have := hs.s1; omega) (by omega); have hN := hs.N; unfold wrap64; omega
 have hNu : NumOK N ((List.replicate N (-1)).set (start * size).toNat 0) [start * size] := by
  refine ⟨by simp, by simp; omega, by simp, fun v v0 v1 => ?_⟩; by_cases e : start * size = v
  ·right; exact ⟨0, by rw [← e]; exact rd_set_same b1 (by simp; omega), by simp [e]⟩
  ·left; rw [rd_set_other b1 v0 e]; refine ⟨?_, by simpa using fun h => e h.symm⟩
   have : rd (List.replicate N (-1)) v = -1 := by
    (have hv : v.toNat < N := by omega); simp [rd, List.getD_eq_getElem?_getD, hv]
   omega
 obtain ⟨bs, rs, nu, lF, hr, hR, hl⟩ := rmain_some hs hT hn f _ _ [] [] ⟨hNu, rfl, by simp, by simp, by simp⟩ (by simpa using hf); generalize hL : [start * size] ++ lF = L at hr hR hl; have hLl := nodup_len L ((List.range N).map (fun k : Nat => (k : Int))) hR.nu.nod (fun v hv => by have := hR.nu.rng v hv; exact List.mem_map.2 ⟨v.toNat, List.mem_range.2 (by omega), by omega⟩); simp at hLl; refine ⟨_, by unfold rightF; rw [hw, if_pos ⟨b1, b2⟩, hr]; rfl, by simp, by simp; omega, ?_, ?_⟩
 ·refine ⟨by simp [hR.len], fun row hrow => ?_⟩; simp only [List.length_append, List.length_cons, List.length_nil]
  rcases List.mem_append.1 hrow with h | h
  ·obtain ⟨row0, h0, rfl⟩ := List.mem_map.1 h; obtain ⟨i, hi, he⟩ := List.getElem_of_mem h0; obtain ⟨hW, v, _, hj⟩ := hR.row i row0 (by rw [List.getElem?_eq_getElem hi, he]); refine ⟨by simp [fixRow, hW], fun x hx => ?_⟩; obtain ⟨y, hy, rfl⟩ := List.mem_map.1 hx; obtain ⟨j, hj1, hj2⟩ := List.getElem_of_mem hy; obtain ⟨x2, hx2, hE⟩ := hj j (by omega); rw [List.getElem?_eq_getElem hj1, hj2] at hx2; obtain rfl := Option.some.inj hx2
   rcases hE with ⟨_, h5⟩ | ⟨q, h5, _, h6⟩
   ·rw [h5]; simp; omega
   ·have := (List.getElem?_eq_some_iff.1 h6).1; rw [h5, if_neg (by omega)]; omega
  ·simp at h; subst h; refine ⟨by simp, fun x hx => ?_⟩; rw [List.eq_of_mem_replicate hx]; omega
 ·have hdead : ∀ w, lng W (bs ++ [false]) (rs.map (fixRow (L.length : Int)) ++ [List.replicate W (L.length : Int)]) (L.length : Int) w = false := by
   intro w
   induction w with
   | nil =>
    simp only [lng, rdOf, Int.toNat_natCast]; rw [List.getD_eq_getElem?_getD, ← hl, List.getElem?_append_right (Nat.le_refl _)]; simp
   | cons c w ih =>
    simp only [lng]; by_cases c0 : 0 ≤ c
    ·by_cases c1 : c < (W : Int)
     ·have : stp (rs.map (fixRow (L.length : Int)) ++ [List.replicate W (L.length : Int)]) (L.length : Int) c = (L.length : Int) := by
       simp only [stp, Int.toNat_natCast]; rw [List.getD_eq_getElem?_getD, List.getElem?_append_right (by simp [hR.len, hl])]; (have hcW : c.toNat < W := by omega); simp [hR.len, hl, rd, List.getD_eq_getElem?_getD, hcW]
      rw [this, ih]; simp
     ·simp [c1]
    ·simp [c0]
  have key : ∀ (w : List Int) (i : Nat) (v : Int), L[i]? = some v → lng W (bs ++ [false]) (rs.map (fixRow (L.length : Int)) ++ [List.replicate W (L.length : Int)]) (i : Int) w = lngR W pads ac ns (v / size, v % size) w := by
   intro w
   induction w with
   | nil =>
    intro i v hv; have hi := (List.getElem?_eq_some_iff.1 hv).1; obtain ⟨v0, v1⟩ := hR.nu.rng v (List.mem_of_getElem? hv); obtain ⟨k1, k2, k3, k4, k5, k6⟩ := key_parts hs v0 v1; (have hib : i < bs.length := by omega); obtain ⟨v', h1, h2⟩ := hR.acc i bs[i] (List.getElem?_eq_getElem hib); rw [hv] at h1; obtain rfl := Option.some.inj h1; simp only [lng, lngR, rdOf, Int.toNat_natCast, k5, decide_true, Bool.true_and]; rw [List.getD_eq_getElem?_getD, List.getElem?_append_left hib, List.getElem?_eq_getElem hib, h2]; rfl
   | cons c w ih =>
    intro i v hv; have hi := (List.getElem?_eq_some_iff.1 hv).1; obtain ⟨v0, v1⟩ := hR.nu.rng v (List.mem_of_getElem? hv); obtain ⟨k1, k2, k3, k4, k5, k6⟩ := key_parts hs v0 v1; simp only [lng, lngR, k5, decide_true, Bool.true_and]; by_cases c0 : 0 ≤ c
    ·by_cases c1 : c < (W : Int)
     ·simp only [c0, c1, decide_true, Bool.true_and]; (have hir : i < rs.length := by rw [hR.len]; omega); obtain ⟨hW, v', h1, hj⟩ := hR.row i rs[i] (List.getElem?_eq_getElem hir); rw [hv] at h1; obtain rfl := Option.some.inj h1; obtain ⟨x, hx, hE⟩ := hj c.toNat (by omega); rw [show ((c.toNat : Nat) : Int) = c by omega] at hE
      have hst : stp (rs.map (fixRow (L.length : Int)) ++ [List.replicate W (L.length : Int)]) (i : Int) c = if x < 0 then (L.length : Int) else x := by
       simp only [stp, Int.toNat_natCast]; rw [List.getD_eq_getElem?_getD, List.getElem?_append_left (by simpa using hir), List.getElem?_map, List.getElem?_eq_getElem hir]; simp [rd, List.getD_eq_getElem?_getD, fixRow, hx]
      rw [hst]
      rcases hE with ⟨h5, h6⟩ | ⟨q, h5, h6, h7⟩
      ·rw [h6, if_pos (by omega), hdead]
       have : ¬ bits .andNot .i64 (v % size) (rd pads c) = 0 := by
        intro hb; unfold endE at h5; rw [if_pos hb] at h5; have := rd_range hs.pr c0 (by rw [hs.pl]; exact c1); omega
       simp [this]
      ·rw [h5, if_neg (by omega)]
       have hb : bits .andNot .i64 (v % size) (rd pads c) = 0 := by
        by_cases hb : bits .andNot .i64 (v % size) (rd pads c) = 0
        ·exact hb
        ·unfold endE at h6; rw [if_neg hb] at h6; omega
       (have he : endE pads (v % size) c = rd pads c := by unfold endE; rw [if_pos hb]); rw [ih q _ h7, he]; have hpr := rd_range hs.pr c0 (by rw [hs.pl]; exact c1); have hst2 := hT.stpd k3 k4 c0 c1; obtain ⟨_, _, _, d4, d5⟩ := key_bound hs hst2.1 hst2.2 hpr.1 hpr.2; rw [d4, d5]; simp [hb]
     ·simp [c1]
    ·simp [c0]
  funext w
  have h0 := key w 0 (start * size) (by rw [← hL]; simp); rw [b4, b5] at h0; exact h0
end
attribute [local go_sem] max2_int min2_int max_two min_two max_three min_three max_four min_four
end Go.Proofs.YtocfcpicleomcaaDoor.X
namespace Go.Proofs.YtocfcpicleomcaaDoor.Pure
set_option maxHeartbeats 16000000
set_option maxRecDepth 100000
open Go.RowKit Go.Proofs.YtocfcpicleomcaaDoor.X Go.Proofs.YtocfcpicleomcaaDoorW.PrintWords Go.Proofs.YtocfcpicleomcaaDoorW.PrintLast
set_option linter.unusedVariables false
set_option linter.unusedSimpArgs false
theorem Ev.succ {α : Type} {g : Nat → Option α} {r : α} (h : Ev (fun k => g (k + 1)) r) : Ev g r := Ev.step (fun _ => rfl) h
theorem Ev.const {α : Type} {o : Option α} {r : α} (h : o = some r) : Ev (fun _ => o) r := ⟨0, fun _ _ => h⟩
theorem w64 {n : Int} (h0 : -9223372036854775808 ≤ n) (h1 : n ≤ 9223372036854775807) : wrap64 n = n := by
 unfold wrap64; omega
theorem rd_nat (xs : List Int) (i : Nat) (h : i < xs.length) : rd xs (i : Int) = xs[i] := by
 simp [rd, List.getD_eq_getElem?_getD, h]
theorem rdOf_nat {α : Type} (d : α) (xs : List α) (i : Nat) (h : i < xs.length) : rdOf d xs (i : Int) = xs[i] := by
 simp [rdOf, List.getD_eq_getElem?_getD, h]
theorem set_take {α : Type} (l ys : List α) (i : Nat) (x : α) (hx : l[i]? = some x) (hl : ys.length = l.length) (h : ys.take i = l.take i) : (ys.set i x).take (i + 1) = l.take (i + 1) := by
 have hi : i < l.length := (List.getElem?_eq_some_iff.1 hx).1; apply List.ext_getElem?; intro j; have hj := congrArg (fun z => z[j]?) h
 simp only [List.getElem?_take] at hj ⊢
 rw [List.getElem?_set]; by_cases h1 : j < i + 1
 ·by_cases h2 : i = j
  ·subst h2; simp only [h1, if_true]; rw [if_pos (by omega)]; exact hx.symm
  ·have h3 : j < i := by omega
   simp only [h1, if_true, h2, if_false, h3] at hj ⊢
   exact hj
 ·simp [h1]
theorem Ev.pos {α : Type} {c : Prop} [Decidable c] {f g : Nat → Option α} {r : α} (h : c) (k : Ev f r) : Ev (fun n => if c then f n else g n) r := by
 obtain ⟨K, k⟩ := k; exact ⟨K, fun n hn => (if_pos h).trans (k n hn)⟩
theorem Ev.neg {α : Type} {c : Prop} [Decidable c] {f g : Nat → Option α} {r : α} (h : ¬ c) (k : Ev g r) : Ev (fun n => if c then f n else g n) r := by
 obtain ⟨K, k⟩ := k; exact ⟨K, fun n hn => (if_neg h).trans (k n hn)⟩
theorem toInt64S_l (l : List Int) (hn : l.length ≤ 35184372088832) (d : Nat) : ∀ (i : Nat) (ys : List Int), i + d = l.length → ys.length = l.length → ys.take i = l.take i → Ev (fun k => laws_toInt64S.l0 k l ys (i : Int)) l := by
 induction d with
 | zero =>
  intro i ys hi hl ht; apply Ev.succ; simp only [laws_toInt64S.l0]; refine Ev.neg (by omega) ?_; refine Ev.const ?_; rw [List.take_of_length_le (by omega), List.take_of_length_le (by omega)] at ht; rw [ht]
 | succ d ih =>
  intro i ys hi hl ht; apply Ev.succ; simp only [laws_toInt64S.l0]; refine Ev.pos (by omega) ?_; refine Ev.pos (by omega) ?_; refine Ev.pos (by omega) ?_; rw [w64 (by omega) (by omega), Int.toNat_natCast]; have := ih (i + 1) (ys.set i (rd l i)) (by omega) (by simp [hl]) (set_take l ys i _ (by rw [rd_nat l i (by omega)]; exact List.getElem?_eq_getElem (by omega)) hl ht); exact this
theorem toInt64S_ev (l : List Int) (hn : l.length ≤ 35184372088832) : Ev (fun k => laws_toInt64S.f k l) l := by
 unfold laws_toInt64S.f; simp only [Int.toNat_natCast]; refine Ev.pos (by omega) ?_; refine Ev.pos hn ?_; exact toInt64S_l l hn l.length 0 _ (by omega) (by simp) (by simp)
theorem eqInt64S_l (l : List Int) (hn : l.length ≤ 35184372088832) (d : Nat) : ∀ (i : Nat), i + d = l.length → Ev (fun k => laws_eqInt64S.l0 k l l (i : Int)) true := by
 induction d with
 | zero =>
  intro i hi; apply Ev.succ; simp only [laws_eqInt64S.l0]; refine Ev.neg (by omega) ?_; exact Ev.const rfl
 | succ d ih =>
  intro i hi; apply Ev.succ; simp only [laws_eqInt64S.l0]; refine Ev.pos (by omega) ?_; refine Ev.pos (by omega) ?_; refine Ev.pos (by omega) ?_; refine Ev.pos trivial ?_; rw [w64 (by omega) (by omega)]; exact ih (i + 1) (by omega)
theorem eqInt64S_ev (l : List Int) (hn : l.length ≤ 35184372088832) : Ev (fun k => laws_eqInt64S.f k l l) true := by
 unfold laws_eqInt64S.f; refine Ev.pos rfl ?_; exact eqInt64S_l l hn l.length 0 (by omega)
theorem rd4_nat (xs : List (List Int)) (i : Nat) (h : i < xs.length) : rd_L2 xs (i : Int) = xs[i] := by
 simp [rd_L2, List.getD_eq_getElem?_getD, h]
theorem toBoolS_l (l : List Bool) (hn : l.length ≤ 35184372088832) (d : Nat) : ∀ (i : Nat) (ys : List Bool), i + d = l.length → ys.length = l.length → ys.take i = l.take i → Ev (fun k => laws_toBoolS.l0 k l ys (i : Int)) l := by
 induction d with
 | zero =>
  intro i ys hi hl ht; apply Ev.succ; simp only [laws_toBoolS.l0]; refine Ev.neg (by omega) ?_; refine Ev.const ?_; rw [List.take_of_length_le (by omega), List.take_of_length_le (by omega)] at ht; rw [ht]
 | succ d ih =>
  intro i ys hi hl ht; apply Ev.succ; simp only [laws_toBoolS.l0]; refine Ev.pos (by omega) ?_; refine Ev.pos (by omega) ?_; refine Ev.pos (by omega) ?_; rw [w64 (by omega) (by omega), Int.toNat_natCast]; have := ih (i + 1) (ys.set i (rdOf false l i)) (by omega) (by simp [hl]) (set_take l ys i _ (by rw [rdOf_nat false l i (by omega)]; exact List.getElem?_eq_getElem (by omega)) hl ht); exact this
theorem toBoolS_ev (l : List Bool) (hn : l.length ≤ 35184372088832) : Ev (fun k => laws_toBoolS.f k l) l := by
 unfold laws_toBoolS.f; simp only [Int.toNat_natCast]; refine Ev.pos (by omega) ?_; refine Ev.pos (by omega) ?_; exact toBoolS_l l hn l.length 0 _ (by omega) (by simp) (by simp)
theorem toInt64SS_l (l : List (List Int)) (hn : l.length ≤ 35184372088832) (hr : ∀ x ∈ l, x.length ≤ 35184372088832) (d : Nat) : ∀ (i : Nat) (ys : List (List Int)), i + d = l.length → ys.length = l.length → ys.take i = l.take i → Ev (fun k => laws_toInt64SS.l0 k l ys (i : Int)) l := by
 induction d with
 | zero =>
  intro i ys hi hl ht; apply Ev.succ; simp only [laws_toInt64SS.l0]; refine Ev.neg (by omega) ?_; refine Ev.const ?_; rw [List.take_of_length_le (by omega), List.take_of_length_le (by omega)] at ht; rw [ht]
 | succ d ih =>
  intro i ys hi hl ht; apply Ev.succ; simp only [laws_toInt64SS.l0]; refine Ev.pos (by omega) ?_; refine Ev.pos (by omega) ?_; rw [rd4_nat l i (by omega)]; refine Ev.bind (toInt64S_ev _ (hr _ (List.getElem_mem _))) ?_; refine Ev.pos (by omega) ?_; rw [w64 (by omega) (by omega), Int.toNat_natCast]; exact ih (i + 1) (ys.set i l[i]) (by omega) (by simp [hl]) (set_take l ys i _ (List.getElem?_eq_getElem (by omega)) hl ht)
theorem toInt64SS_ev (l : List (List Int)) (hn : l.length ≤ 11728124029610) (hr : ∀ x ∈ l, x.length ≤ 35184372088832) : Ev (fun k => laws_toInt64SS.f k l) l := by
 unfold laws_toInt64SS.f; simp only [Int.toNat_natCast]; refine Ev.pos (by omega) ?_; refine Ev.pos (by omega) ?_; exact toInt64SS_l l (by omega) hr l.length 0 _ (by omega) (by simp) (by simp)
theorem eqBoolS_l (l : List Bool) (hn : l.length ≤ 35184372088832) (d : Nat) : ∀ (i : Nat), i + d = l.length → Ev (fun k => laws_eqBoolS.l0 k l l (i : Int)) true := by
 induction d with
 | zero =>
  intro i hi; apply Ev.succ; simp only [laws_eqBoolS.l0]; refine Ev.neg (by omega) ?_; exact Ev.const rfl
 | succ d ih =>
  intro i hi; apply Ev.succ; simp only [laws_eqBoolS.l0]; refine Ev.pos (by omega) ?_; refine Ev.pos (by omega) ?_; refine Ev.pos (by omega) ?_; refine Ev.neg (by simp) ?_; rw [w64 (by omega) (by omega)]; exact ih (i + 1) (by omega)
theorem eqBoolS_ev (l : List Bool) (hn : l.length ≤ 35184372088832) : Ev (fun k => laws_eqBoolS.f k l l) true := by
 unfold laws_eqBoolS.f; refine Ev.pos rfl ?_; exact eqBoolS_l l hn l.length 0 (by omega)
theorem eqInt64SS_l (l : List (List Int)) (hn : l.length ≤ 35184372088832) (hr : ∀ x ∈ l, x.length ≤ 35184372088832) (d : Nat) : ∀ (i : Nat), i + d = l.length → Ev (fun k => laws_eqInt64SS.l0 k l l (i : Int)) true := by
 induction d with
 | zero =>
  intro i hi; apply Ev.succ; simp only [laws_eqInt64SS.l0]; refine Ev.neg (by omega) ?_; exact Ev.const rfl
 | succ d ih =>
  intro i hi; apply Ev.succ; simp only [laws_eqInt64SS.l0]; refine Ev.pos (by omega) ?_; refine Ev.pos (by omega) ?_; refine Ev.pos (by omega) ?_; rw [rd4_nat l i (by omega)]; refine Ev.bind (eqInt64S_ev _ (hr _ (List.getElem_mem _))) ?_; refine Ev.pos rfl ?_; rw [w64 (by omega) (by omega)]; exact ih (i + 1) (by omega)
theorem eqInt64SS_ev (l : List (List Int)) (hn : l.length ≤ 35184372088832) (hr : ∀ x ∈ l, x.length ≤ 35184372088832) : Ev (fun k => laws_eqInt64SS.f k l l) true := by
 unfold laws_eqInt64SS.f; refine Ev.pos rfl ?_; exact eqInt64SS_l l hn hr l.length 0 (by omega)
theorem szInt64SS_l (l : List (List Int)) (hn : l.length ≤ 9223372036854775806) (hr : ∀ x ∈ l, x.length ≤ 9223372036854775807) (d : Nat) : ∀ (i a : Nat), i + d = l.length → a ≤ 1048576 →
  ∃ n : Int, Ev (fun k => laws_szInt64SS.l0 k l (a : Int) (i : Int)) n ∧ n ≤ 1048576 ∧ (0 ≤ n → ∀ j, i ≤ j → ∀ x, l[j]? = some x → x.length ≤ 1048576) := by
 induction d with
 | zero =>
  intro i a hi ha; refine ⟨a, ?_, by omega, fun _ j hj x hx => ?_⟩
  ·apply Ev.succ; simp only [laws_szInt64SS.l0]; refine Ev.neg (by omega) ?_; exact Ev.const rfl
  ·have := (List.getElem?_eq_some_iff.1 hx).1; omega
 | succ d ih =>
  intro i a hi ha; have hx := hr _ (List.getElem_mem (show i < l.length by omega)); by_cases c : l[i].length ≤ a
  ·obtain ⟨n, h1, h2, h3⟩ := ih (i + 1) (a - l[i].length) (by omega) (by omega); refine ⟨n, ?_, h2, fun h0 j hj x hjx => ?_⟩
   ·apply Ev.succ; simp only [laws_szInt64SS.l0]; refine Ev.pos (by omega) ?_; refine Ev.pos (by omega) ?_; rw [rd4_nat l i (by omega)]; refine Ev.bind (a := ((a - l[i].length : Nat) : Int)) ?_ ?_
    ·unfold laws_szInt64S.f; rw [w64 (by omega) (by omega)]; refine Ev.neg (by omega) ?_; exact Ev.const (by congr 1; omega)
    ·refine Ev.neg (by omega) ?_; rw [w64 (by omega) (by omega)]; exact h1
   ·by_cases e : i = j
    ·subst e; rw [List.getElem?_eq_getElem (by omega)] at hjx; injection hjx with hjx; subst hjx; omega
    ·exact h3 h0 j (by omega) x hjx
  ·refine ⟨-1, ?_, by omega, fun h0 => by omega⟩; apply Ev.succ; simp only [laws_szInt64SS.l0]; refine Ev.pos (by omega) ?_; refine Ev.pos (by omega) ?_; rw [rd4_nat l i (by omega)]; refine Ev.bind (a := -1) ?_ ?_
   ·unfold laws_szInt64S.f; rw [w64 (by omega) (by omega)]; exact Ev.pos (by omega) (Ev.const rfl)
   ·exact Ev.pos (by omega) (Ev.const rfl)
/-- What a relation's size says: it is not negative only if its rows are short. -/
def SzOK (ac : List Bool) (ns : List (List Int)) : Prop := ac.length ≤ 1048576 ∧ ns.length ≤ 1048576 ∧ ∀ x ∈ ns, x.length ≤ 1048576
theorem szRelation_ev (t s : Int) (ac : List Bool) (ns : List (List Int)) (a : Nat) (ha : a ≤ 1048576) (h2 : ac.length ≤ 9223372036854775807) (h3 : ns.length ≤ 9223372036854775807) (hr : ∀ x ∈ ns, x.length ≤ 9223372036854775807) :
  ∃ n : Int, Ev (fun k => laws_szRelation.f k t s ac ns (a : Int)) n ∧ n ≤ 1048576 ∧ (0 ≤ n → SzOK ac ns) := by
 unfold laws_szRelation.f; by_cases c : ac.length ≤ a
 ·by_cases c2 : ns.length ≤ a - ac.length
  ·obtain ⟨n, e1, e2, e3⟩ := szInt64SS_l ns (by omega) hr ns.length 0 (a - ac.length - ns.length) (by omega) (by omega); refine ⟨if n < 0 then -1 else n, ?_, by split <;> omega, fun h0 => ⟨by omega, by omega, fun x hx => ?_⟩⟩
   ·refine Ev.bind (a := ((a - ac.length : Nat) : Int)) ?_ ?_
    ·unfold laws_szBoolS.f; rw [w64 (by omega) (by omega)]; refine Ev.neg (by omega) ?_; exact Ev.const (by congr 1; omega)
    ·refine Ev.neg (by omega) ?_; refine Ev.bind (a := n) ?_ ?_
     ·unfold laws_szInt64SS.f; rw [w64 (by omega) (by omega)]; refine Ev.neg (by omega) ?_; rw [show ((a - ac.length : Nat) : Int) - (ns.length : Int) = ((a - ac.length - ns.length : Nat) : Int) by omega]; exact e1
     ·by_cases hn : n < 0
      ·simp only [if_pos hn]; exact Ev.now _
      ·simp only [if_neg hn]; exact Ev.now _
   ·have hn : 0 ≤ n := by
     by_cases hn : n < 0
     ·rw [if_pos hn] at h0; omega
     ·omega
    obtain ⟨j, hj⟩ := List.mem_iff_getElem?.1 hx; exact e3 hn j (by omega) x hj
  ·refine ⟨-1, ?_, by omega, fun h0 => by omega⟩; refine Ev.bind (a := ((a - ac.length : Nat) : Int)) ?_ ?_
   ·unfold laws_szBoolS.f; rw [w64 (by omega) (by omega)]; refine Ev.neg (by omega) ?_; exact Ev.const (by congr 1; omega)
   ·refine Ev.neg (by omega) ?_; refine Ev.bind (a := -1) ?_ ?_
    ·unfold laws_szInt64SS.f; rw [w64 (by omega) (by omega)]; exact Ev.pos (by omega) (Ev.const rfl)
    ·exact Ev.pos (by omega) (Ev.const rfl)
 ·refine ⟨-1, ?_, by omega, fun h0 => by omega⟩; refine Ev.bind (a := -1) ?_ ?_
  ·unfold laws_szBoolS.f; rw [w64 (by omega) (by omega)]; exact Ev.pos (by omega) (Ev.const rfl)
  ·exact Ev.pos (by omega) (Ev.const rfl)
theorem toRelation_ev (t s : Int) (ac : List Bool) (ns : List (List Int)) (h : SzOK ac ns) : Ev (fun k => laws_toRelation.f k t s ac ns) (t, s, ac, ns) := by
 unfold laws_toRelation.f; refine Ev.bind (toBoolS_ev ac (by have := h.1; omega)) ?_; refine Ev.bind (toInt64SS_ev ns (by have := h.2.1; omega) (fun x hx => by have := h.2.2 x hx; omega)) ?_; exact Ev.now _
theorem eqRelation_ev (t s : Int) (ac : List Bool) (ns : List (List Int)) (h : SzOK ac ns) : Ev (fun k => laws_eqRelation.f k t s ac ns t s ac ns) true := by
 unfold laws_eqRelation.f; refine Ev.pos rfl ?_; refine Ev.pos rfl ?_; refine Ev.bind (eqBoolS_ev ac (by have := h.1; omega)) ?_; refine Ev.pos rfl ?_; refine Ev.bind (eqInt64SS_ev ns (by have := h.2.1; omega) (fun x hx => by have := h.2.2 x hx; omega)) ?_; exact Ev.pos rfl (Ev.now _)
theorem in_eq (a b c : Int) : spec_l00In.f a b c = some (decide (b ≤ a) && decide (a ≤ c)) := by
 unfold spec_l00In.f; by_cases h : a ≥ b
 ·rw [if_pos h]; simp [h]
 ·rw [if_neg h]; simp [show ¬ b ≤ a from h]
theorem within_eq (a b c : Int) : impl_within.f a b c = some (decide (b ≤ a) && decide (a ≤ c)) := by
 unfold impl_within.f; by_cases h : b ≤ a
 ·rw [if_pos h]; simp [h]
 ·rw [if_neg h]; simp [h]
theorem areTapes_eq (a : Int) : impl_areTapes.f a = some (decide (1 ≤ a) && decide (a ≤ 3)) := by
 unfold impl_areTapes.f; rw [within_eq]; rfl
def wd (n : Nat) : Nat := if n = 0 then 0 else if n = 1 then 2 else if n = 2 then 8 else 26
theorem wideS_fin : ∀ n : Fin 4, spec_l01Wide.f 10 (n.val : Int) = some ((wd n.val : Nat) : Int) := by decide +kernel
theorem wideI_fin : ∀ n : Fin 4, impl_widthOf.f 10 (n.val : Int) = some ((wd n.val : Nat) : Int) := by decide +kernel
theorem wideS_ev (n : Nat) (h : n ≤ 3) : Ev (fun k => spec_l01Wide.f k (n : Int)) ((wd n : Nat) : Int) := Ev.of (fun k => spec_l01Wide.mono _ k) (wideS_fin ⟨n, by omega⟩)
theorem wideI_ev (n : Nat) (h : n ≤ 3) : Ev (fun k => impl_widthOf.f k (n : Int)) ((wd n : Nat) : Int) := Ev.of (fun k => impl_widthOf.mono _ k) (wideI_fin ⟨n, by omega⟩)
theorem wd_le (n : Nat) (h : n ≤ 3) : wd n ≤ 26 := by
 unfold wd
 split <;> (try split) <;> (try split) <;> omega
/-- The states of a row are among n. -/
def okCells (n : Nat) (l : List Int) : Bool := l.all fun x => decide (0 ≤ x) && decide (x < n)
def okRows (w n : Nat) (ns : List (List Int)) : Bool := ns.all fun r => decide (r.length = w) && okCells n r
/-- A relation's form. -/
def okRel (t s : Int) (ac : List Bool) (ns : List (List Int)) : Bool :=
 decide (1 ≤ t) && decide (t ≤ 3) && decide (1 ≤ ac.length) && decide (ac.length ≤ 150) && decide (ns.length = ac.length) && decide (0 ≤ s) && decide (s < ac.length) && okRows (wd t.toNat) ac.length ns
theorem drop_all {α : Type} (p : α → Bool) (l : List α) (i : Nat) (h : i < l.length) : (l.drop i).all p = (p l[i] && (l.drop (i + 1)).all p) := by
 rw [List.drop_eq_getElem_cons h, List.all_cons]
theorem spec_form_l1 (t : Nat) (s : Int) (ac : List Bool) (ns : List (List Int)) (x3 : Nat) (hx3 : x3 ≤ 150) (i : Nat) (hi : i < ns.length) (hl : ns[i].length ≤ 26) (R : Bool)
  (hR : Ev (fun k => spec_l01Form.l0 k (x3 : Int) (((i : Nat) + 1 : Nat) : Int) (t : Int) s ac ns) (R, (t : Int), s)) (hni : ns.length ≤ 1048576) (d : Nat) : ∀ j, j + d = ns[i].length →
  Ev (fun k => spec_l01Form.l1 k (x3 : Int) (i : Int) (j : Int) (t : Int) s ac ns) (okCells x3 (ns[i].drop j) && R, (t : Int), s) := by
 induction d with
 | zero =>
  intro j hj; apply Ev.succ; simp only [spec_l01Form.l1]; refine Ev.pos (by omega) ?_; refine Ev.pos (by omega) ?_; rw [rd4_nat ns i hi]; refine Ev.neg (by omega) ?_; rw [w64 (by omega) (by omega), List.drop_of_length_le (by omega)]; simp only [okCells, List.all_nil, Bool.true_and]; exact hR
 | succ d ih =>
  intro j hj; apply Ev.succ; simp only [spec_l01Form.l1]; refine Ev.pos (by omega) ?_; refine Ev.pos (by omega) ?_; rw [rd4_nat ns i hi]; refine Ev.pos (by omega) ?_; refine Ev.pos (by omega) ?_; rw [rd_nat _ _ (by omega)]; refine Ev.bind (Ev.const (in_eq _ _ _)) ?_; rw [show okCells x3 (ns[i].drop j) = ((decide (0 ≤ ns[i][j]) && decide (ns[i][j] < x3)) && okCells x3 (ns[i].drop (j + 1))) from drop_all _ _ _ (by omega)]; rw [w64 (n := (x3 : Int) - 1) (by omega) (by omega)]; rw [show decide (ns[i][j] ≤ (x3 : Int) - 1) = decide (ns[i][j] < (x3 : Int)) by apply decide_eq_decide.2; omega]; by_cases c : (decide (0 ≤ ns[i][j]) && decide (ns[i][j] < (x3 : Int))) = true
  ·rw [c]; refine Ev.pos (by first | rfl | trivial) ?_; rw [w64 (by omega) (by omega)]; simp only [Bool.true_and]; exact ih (j + 1) (by omega)
  ·rw [Bool.not_eq_true] at c; rw [c]; exact Ev.neg (by simp) (Ev.const (by simp))
theorem spec_form_l0 (t : Nat) (ht : t ≤ 3) (s : Int) (ac : List Bool) (ns : List (List Int)) (x3 : Nat) (hx3 : x3 ≤ 150) (hni : ns.length ≤ 1048576) (d : Nat) : ∀ i, i + d = ns.length →
  Ev (fun k => spec_l01Form.l0 k (x3 : Int) (i : Int) (t : Int) s ac ns) (okRows (wd t) x3 (ns.drop i), (t : Int), s) := by
 induction d with
 | zero =>
  intro i hi; apply Ev.succ; simp only [spec_l01Form.l0]; refine Ev.neg (by omega) ?_; rw [List.drop_of_length_le (by omega)]; exact Ev.const rfl
 | succ d ih =>
  intro i hi; apply Ev.succ; simp only [spec_l01Form.l0]; refine Ev.pos (by omega) ?_; refine Ev.pos (by omega) ?_; rw [rd4_nat ns i (by omega)]; refine Ev.bind (wideS_ev t ht) ?_; rw [show okRows (wd t) x3 (ns.drop i) = ((decide (ns[i].length = wd t) && okCells x3 ns[i]) && okRows (wd t) x3 (ns.drop (i + 1))) from drop_all _ _ _ (by omega)]; have := wd_le t ht; by_cases c : ns[i].length = wd t
  ·refine Ev.pos (by omega) ?_; have h := spec_form_l1 t s ac ns x3 hx3 i (by omega) (by omega) _ (ih (i + 1) (by omega)) hni ns[i].length 0 (by omega); rw [List.drop_zero] at h; simp only [c, decide_true, Bool.true_and]; exact h
  ·refine Ev.neg (by omega) ?_; simp only [c, decide_false, Bool.false_and]; exact Ev.const rfl
theorem spec_ok_ev (t s : Int) (ac : List Bool) (ns : List (List Int)) (h : SzOK ac ns) : Ev (fun k => spec_l01Ok.f k t s ac ns) (okRel t s ac ns, t, s) := by
 unfold spec_l01Ok.f; have h1 := h.1; by_cases c : ac.length ≤ 150
 ·refine Ev.pos (by omega) ?_; refine Ev.bind (a := (okRel t s ac ns, t, s)) ?_ (Ev.now _); unfold spec_l01Form.f; refine Ev.bind (Ev.const (in_eq _ _ _)) ?_; by_cases ct : 1 ≤ t ∧ t ≤ 3
  ·obtain ⟨n, rfl⟩ : ∃ n : Nat, t = n := ⟨t.toNat, by omega⟩; simp only [show decide ((1 : Int) ≤ n) = true by simpa using ct.1, show decide ((n : Int) ≤ 3) = true by simpa using ct.2, Bool.true_and]; refine Ev.pos (by first | rfl | trivial) ?_; by_cases c1 : ac.length < 1
   ·refine Ev.pos (by omega) ?_; apply Ev.succ; simp only [spec_l01Form.j0]; refine Ev.pos (by first | rfl | trivial) ?_; refine Ev.const ?_; simp [okRel, show ¬ 1 ≤ ac.length by omega]
   ·refine Ev.neg (by omega) ?_; refine Ev.bind (Ev.const (in_eq _ _ _)) ?_; rw [w64 (n := (ac.length : Int) - 1) (by omega) (by omega)]; by_cases cs : 0 ≤ s ∧ s < ac.length
    ·simp only [show decide ((0 : Int) ≤ s) = true by simpa using cs.1, show decide (s ≤ (ac.length : Int) - 1) = true from decide_eq_true (by omega), Bool.true_and]; refine Ev.pos (by first | rfl | trivial) ?_; apply Ev.succ; simp only [spec_l01Form.j0]; by_cases cn : ns.length = ac.length
     ·refine Ev.neg (by simp [cn]) ?_; have h0 := spec_form_l0 n (by omega) s ac ns ac.length c (by have := h.2.1; omega) ns.length 0 (by omega); rw [List.drop_zero] at h0
      have e : okRel (n : Int) s ac ns = okRows (wd n) ac.length ns := by
       simp only [okRel, Int.toNat_natCast]; simp only [show decide ((1 : Int) ≤ n) = true by simpa using ct.1, show decide ((n : Int) ≤ 3) = true by simpa using ct.2, show decide (1 ≤ ac.length) = true from decide_eq_true (by omega), show decide (ac.length ≤ 150) = true from decide_eq_true c, cn, show decide ((0 : Int) ≤ s) = true by simpa using cs.1, show decide (s < (ac.length : Int)) = true from decide_eq_true cs.2, decide_true, Bool.true_and]
      rw [e]; exact h0
     ·refine Ev.pos (by simpa using fun e => cn (by omega)) ?_; refine Ev.const ?_; simp [okRel, cn]
    ·refine Ev.neg ?_ ?_
     ·intro e; rw [Bool.and_eq_true, decide_eq_true_eq, decide_eq_true_eq] at e; exact cs ⟨e.1, by omega⟩
     ·apply Ev.succ; simp only [spec_l01Form.j0]; refine Ev.pos (by first | rfl | trivial) ?_; refine Ev.const ?_
      have : (decide (0 ≤ s) && decide (s < (ac.length : Int))) = false := by
       rw [Bool.eq_false_iff]; intro e; rw [Bool.and_eq_true, decide_eq_true_eq, decide_eq_true_eq] at e; exact cs e
      congr 2
      simp only [okRel]
      rcases Bool.and_eq_false_iff.1 this with e | e <;> rw [e] <;> simp
  ·have e : (decide (1 ≤ t) && decide (t ≤ 3)) = false := by
    rw [Bool.eq_false_iff]; intro e; rw [Bool.and_eq_true, decide_eq_true_eq, decide_eq_true_eq] at e; exact ct e
   rw [e]; refine Ev.neg (by simp) ?_; apply Ev.succ; simp only [spec_l01Form.j0]; refine Ev.pos (by first | rfl | trivial) ?_; refine Ev.const ?_; simp [okRel, e]
 ·refine Ev.neg (by omega) ?_; refine Ev.const ?_; simp [okRel, c]
theorem impl_l1 (t : Nat) (s : Int) (ac : List Bool) (ns : List (List Int)) (x3 : Nat) (hx3 : x3 ≤ 150) (i : Nat) (hni : i < 1048576) (l : List Int) (hl : l.length ≤ 26) (R : Bool)
  (hR : Ev (fun k => impl_ValidRelation.l0 k (x3 : Int) ns (ns.length : Int) (((i : Nat) + 1 : Nat) : Int) (t : Int) s ac ns) R) (d : Nat) : ∀ j, j + d = l.length →
  Ev (fun k => impl_ValidRelation.l1 k (x3 : Int) ns (ns.length : Int) (i : Int) l (l.length : Int) (j : Int) (t : Int) s ac ns) (okCells x3 (l.drop j) && R) := by
 induction d with
 | zero =>
  intro j hj; apply Ev.succ; simp only [impl_ValidRelation.l1]; refine Ev.neg (by omega) ?_; rw [w64 (by omega) (by omega), List.drop_of_length_le (by omega)]; simp only [okCells, List.all_nil, Bool.true_and]; exact hR
 | succ d ih =>
  intro j hj; apply Ev.succ; simp only [impl_ValidRelation.l1]; refine Ev.pos (by omega) ?_; refine Ev.pos (by omega) ?_; refine Ev.pos (by omega) ?_; rw [rd_nat _ _ (by omega)]; refine Ev.bind (Ev.const (within_eq _ _ _)) ?_; rw [show okCells x3 (l.drop j) = ((decide (0 ≤ l[j]) && decide (l[j] < x3)) && okCells x3 (l.drop (j + 1))) from drop_all _ _ _ (by omega)]; rw [w64 (n := (x3 : Int) - 1) (by omega) (by omega)]; rw [show decide (l[j] ≤ (x3 : Int) - 1) = decide (l[j] < (x3 : Int)) by apply decide_eq_decide.2; omega]; by_cases c : (decide (0 ≤ l[j]) && decide (l[j] < (x3 : Int))) = true
  ·rw [c]; refine Ev.pos (by first | rfl | trivial) ?_; rw [w64 (by omega) (by omega)]; simp only [Bool.true_and]; exact ih (j + 1) (by omega)
  ·rw [Bool.not_eq_true] at c; rw [c]; exact Ev.neg (by simp) (Ev.const (by simp))
theorem impl_l0 (t : Nat) (ht : t ≤ 3) (s : Int) (ac : List Bool) (ns : List (List Int)) (x3 : Nat) (hx3 : x3 ≤ 150) (hni : ns.length ≤ 1048576) (d : Nat) : ∀ i, i + d = ns.length →
  Ev (fun k => impl_ValidRelation.l0 k (x3 : Int) ns (ns.length : Int) (i : Int) (t : Int) s ac ns) (okRows (wd t) x3 (ns.drop i)) := by
 induction d with
 | zero =>
  intro i hi; apply Ev.succ; simp only [impl_ValidRelation.l0]; refine Ev.neg (by omega) ?_; rw [List.drop_of_length_le (by omega)]; exact Ev.const rfl
 | succ d ih =>
  intro i hi; apply Ev.succ; simp only [impl_ValidRelation.l0]; refine Ev.pos (by omega) ?_; refine Ev.pos (by omega) ?_; refine Ev.pos (by omega) ?_; rw [rd4_nat ns i (by omega)]; refine Ev.bind (wideI_ev t ht) ?_; rw [show okRows (wd t) x3 (ns.drop i) = ((decide (ns[i].length = wd t) && okCells x3 ns[i]) && okRows (wd t) x3 (ns.drop (i + 1))) from drop_all _ _ _ (by omega)]; have := wd_le t ht; by_cases c : ns[i].length = wd t
  ·refine Ev.pos (by omega) ?_; have h := impl_l1 t s ac ns x3 hx3 i (by omega) ns[i] (by omega) _ (ih (i + 1) (by omega)) ns[i].length 0 (by omega); rw [List.drop_zero] at h; simp only [c, decide_true, Bool.true_and]; rw [c] at h; exact h
  ·refine Ev.neg (by omega) ?_; simp only [c, decide_false, Bool.false_and]; exact Ev.const rfl
theorem impl_ValidRelation_ev (t s : Int) (ac : List Bool) (ns : List (List Int)) (h : SzOK ac ns) : Ev (fun k => impl_ValidRelation.f k t s ac ns) (okRel t s ac ns) := by
 have hj0 : ∀ n : Int, Ev (fun k => impl_ValidRelation.j0 k n true t s ac ns) false := fun n => by
  apply Ev.succ; simp only [impl_ValidRelation.j0]; exact Ev.pos (by first | rfl | trivial) (Ev.const rfl)
 have h1 := h.1; unfold impl_ValidRelation.f; refine Ev.bind (Ev.const (areTapes_eq _)) ?_; by_cases ct : 1 ≤ t ∧ t ≤ 3
 ·obtain ⟨n, rfl⟩ : ∃ n : Nat, t = n := ⟨t.toNat, by omega⟩; simp only [show decide ((1 : Int) ≤ n) = true by simpa using ct.1, show decide ((n : Int) ≤ 3) = true by simpa using ct.2, Bool.true_and]; refine Ev.pos (by first | rfl | trivial) ?_; refine Ev.bind (Ev.const (within_eq _ _ _)) ?_; by_cases c1 : 1 ≤ ac.length ∧ ac.length ≤ 150
  ·refine Ev.pos (by simp; omega) ?_; by_cases cn : ns.length = ac.length
   ·refine Ev.pos (by omega) ?_; refine Ev.bind (Ev.const (within_eq _ _ _)) ?_; rw [w64 (n := (ac.length : Int) - 1) (by omega) (by omega)]; by_cases cs : 0 ≤ s ∧ s < ac.length
    ·simp only [show decide ((0 : Int) ≤ s) = true by simpa using cs.1, show decide (s ≤ (ac.length : Int) - 1) = true from decide_eq_true (by omega), Bool.true_and, Bool.not_true]; apply Ev.succ; simp only [impl_ValidRelation.j0]; refine Ev.neg (by simp) ?_; have h0 := impl_l0 n (by omega) s ac ns ac.length c1.2 (by have := h.2.1; omega) ns.length 0 (by omega); rw [List.drop_zero] at h0
     have e : okRel (n : Int) s ac ns = okRows (wd n) ac.length ns := by
      simp only [okRel, Int.toNat_natCast]; simp only [show decide ((1 : Int) ≤ n) = true by simpa using ct.1, show decide ((n : Int) ≤ 3) = true by simpa using ct.2, show decide (1 ≤ ac.length) = true from decide_eq_true (by omega), show decide (ac.length ≤ 150) = true from decide_eq_true c1.2, cn, show decide ((0 : Int) ≤ s) = true by simpa using cs.1, show decide (s < (ac.length : Int)) = true from decide_eq_true cs.2, decide_true, Bool.true_and]
     rw [e]; exact h0
    ·have e1 : (decide (0 ≤ s) && decide (s ≤ (ac.length : Int) - 1)) = false := by
      rw [Bool.eq_false_iff]; intro e; rw [Bool.and_eq_true, decide_eq_true_eq, decide_eq_true_eq] at e; exact cs ⟨e.1, by omega⟩
     have e2 : (decide (0 ≤ s) && decide (s < (ac.length : Int))) = false := by
      rw [Bool.eq_false_iff]; intro e; rw [Bool.and_eq_true, decide_eq_true_eq, decide_eq_true_eq] at e; exact cs e
     have e : okRel (n : Int) s ac ns = false := by
      simp only [okRel]
      rcases Bool.and_eq_false_iff.1 e2 with e | e <;> rw [e] <;> simp
     rw [e1, e]; exact hj0 _
   ·refine Ev.neg (by omega) ?_; (have e : okRel (n : Int) s ac ns = false := by simp [okRel, cn]); rw [e]; exact hj0 _
  ·refine Ev.neg ?_ ?_
   ·intro e; rw [Bool.and_eq_true, decide_eq_true_eq, decide_eq_true_eq] at e; exact c1 ⟨by omega, by omega⟩
   ·have e : okRel (n : Int) s ac ns = false := by
     simp only [okRel]; by_cases c2 : 1 ≤ ac.length
     ·simp [show ¬ ac.length ≤ 150 from fun h => c1 ⟨c2, h⟩]
     ·simp [c2]
    rw [e]; exact hj0 _
 ·have e : (decide (1 ≤ t) && decide (t ≤ 3)) = false := by
   rw [Bool.eq_false_iff]; intro e; rw [Bool.and_eq_true, decide_eq_true_eq, decide_eq_true_eq] at e; exact ct e
  rw [e]; refine Ev.neg (by simp) ?_; (have e : okRel t s ac ns = false := by simp [okRel, e]); rw [e]; exact hj0 _
/-- What a valid relation gives. -/
theorem okRel_parts {t s : Int} {ac : List Bool} {ns : List (List Int)} (h : okRel t s ac ns = true) : ∃ n : Nat, t = (n : Int) ∧ 1 ≤ n ∧ n ≤ 3 ∧ 1 ≤ ac.length ∧ ac.length ≤ 150 ∧ 0 ≤ s ∧ s < (ac.length : Int) ∧ TableOK (wd n) ac.length ns := by
 simp only [okRel, Bool.and_eq_true, decide_eq_true_eq] at h; obtain ⟨⟨⟨⟨⟨⟨⟨h1, h2⟩, h3⟩, h4⟩, h5⟩, h6⟩, h7⟩, h8⟩ := h; refine ⟨t.toNat, by omega, by omega, by omega, h3, h4, h6, h7, h5, fun row hrow => ?_⟩; simp only [okRows, List.all_eq_true, Bool.and_eq_true, decide_eq_true_eq, okCells] at h8; have := h8 row hrow; exact ⟨this.1, fun x hx => this.2 x hx⟩
def padsT (t : Nat) : List Int := (padsL 20 (t : Int) (wd t) 0 (List.replicate (wd t) 0)).getD []
theorem pads_fin : ∀ t : Fin 4, padsL 20 ((t.val : Nat) : Int) (wd t.val) 0 (List.replicate (wd t.val) 0) = some (padsT t.val) ∧ (padsT t.val).length = wd t.val ∧ ∀ x ∈ padsT t.val, 0 ≤ x ∧ x < 2 ^ t.val := by decide +kernel
def endedOk (t : Nat) : Bool := (List.range (2 ^ t)).all fun p => (List.range (wd t)).all fun c => spec_l01Ended.f 20 (t : Int) (p : Int) (c : Int) == some (endE (padsT t) (p : Int) (c : Int))
theorem ended_fin : ∀ t : Fin 4, endedOk t.val = true := by decide +kernel
theorem atk {α : Type} {g : Nat → Option α} {r : α} (hg : ∀ k, LeO (g k) (g (k + 1))) {k n : Nat} (hn : k ≤ n) (h : g k = some r) : g n = some r := at_rounds hg hn h
theorem ended_at {t : Nat} (ht : t ≤ 3) {k : Nat} (hk : 20 ≤ k) {p c : Int} (p0 : 0 ≤ p) (p1 : p < 2 ^ t) (c0 : 0 ≤ c) (c1 : c < (wd t : Int)) : spec_l01Ended.f k (t : Int) p c = some (endE (padsT t) p c) := by
 refine atk (k := 20) (fun k => spec_l01Ended.mono _ _ _ k) hk ?_; have h := ended_fin ⟨t, by omega⟩; simp only [endedOk, List.all_eq_true, List.mem_range, beq_iff_eq] at h
 have hp : p.toNat < 2 ^ t := by
  (have : ((2 ^ t : Nat) : Int) = 2 ^ t := by push_cast; rfl); omega
 have := h p.toNat hp c.toNat (by omega)
 rwa [show ((p.toNat : Nat) : Int) = p by omega, show ((c.toNat : Nat) : Int) = c by omega] at this
theorem size_le {n : Nat} (h1 : 1 ≤ n) (h3 : n ≤ 3) : (1 : Int) ≤ 2 ^ n ∧ (2 : Int) ^ n ≤ 8 ∧ (2 : Nat) ^ n ≤ 8 := by
 have : n = 1 ∨ n = 2 ∨ n = 3 := by omega
 rcases this with rfl | rfl | rfl <;> decide
/-- The tidy table of a relation's language. -/
def TidyIs (t : Nat) (s : Int) (ac : List Bool) (ns : List (List Int)) (r : List Bool × List (List Int)) : Prop := ∃ f, tidyD (wd t) f (lngR (wd t) (padsT t) ac ns (s, 0)) = some r
theorem impl_tidy_ev {n : Nat} {s : Int} {ac : List Bool} {ns : List (List Int)} (h1 : 1 ≤ n) (h3 : n ≤ 3) (hl : ac.length ≤ 2000) (s0 : 0 ≤ s) (s1 : s < (ac.length : Int)) (hT : TableOK (wd n) ac.length ns) :
  ∃ r, TidyIs n s ac ns r ∧ Ev (fun k => impl_machine_tidy.f k (n : Int) s ac ns) ((n : Int), 0, r.1, r.2) := by
 obtain ⟨q1, q2, q3⟩ := pads_fin ⟨n, by omega⟩; simp only at q1 q2 q3; obtain ⟨z1, z2, z3⟩ := size_le h1 h3; have hw := wd_le n h3; have law := fun (f : Nat) (hf : 1900002 ≤ f) => tidy_law hT rfl q2 (fun x hx => ⟨(q3 x hx).1, by have := (q3 x hx).2; omega⟩) (by omega) (by omega) s0 s1 hf; obtain ⟨p0, r, hp0, hpl0, hr0, hd0⟩ := law 1900002 (by omega); refine ⟨r, ⟨_, hd0⟩, 1900002, fun k hk => ?_⟩; obtain ⟨p, r', hp, hpl, hr, hd⟩ := law k hk; obtain rfl := tidyD_same hd0 hd; have hwid : impl_widthOf.f k (n : Int) = some ((wd n : Nat) : Int) := atk (k := 10) (fun k => impl_widthOf.mono _ k) (by omega) (wideI_fin ⟨n, by omega⟩); have hpad : padsL k (n : Int) (wd n) 0 (List.replicate (wd n) 0) = some (padsT n) := atk (k := 20) (fun k => padsL_mono k _ _ _ _) (by omega) q1; show impl_machine_tidy.f k (n : Int) s ac ns = _; unfold impl_machine_tidy.f; rw [hwid]; simp only [Option.bind_some, Int.toNat_natCast]; rw [if_pos ⟨by omega, by omega, by unfold good2 inI64; simp; omega⟩, hpad]; simp only [Option.bind_some]; rw [hp]; simp only [Option.bind_some]; rw [if_pos hpl, hr]; rfl
theorem spec_tidied_ev {n : Nat} {s : Int} {ac : List Bool} {ns : List (List Int)} (h1 : 1 ≤ n) (h3 : n ≤ 3) (hl : ac.length ≤ 2000) (s0 : 0 ≤ s) (s1 : s < (ac.length : Int)) (hT : TableOK (wd n) ac.length ns)
  {r : List Bool × List (List Int)} (hr : TidyIs n s ac ns r) : Ev (fun k => spec_l01Tidied.f k (n : Int) s ac ns) ((n : Int), 0, r.1, r.2, (n : Int), s) := by
 obtain ⟨f0, hd0⟩ := hr; obtain ⟨q1, q2, q3⟩ := pads_fin ⟨n, by omega⟩; simp only at q1 q2 q3; obtain ⟨z1, z2, z3⟩ := size_le h1 h3; have hw := wd_le n h3; refine ⟨1000000000, fun k hk => ?_⟩; have hN : ac.length * 2 ^ n ≤ 2000 * 8 := Nat.mul_le_mul hl z3
 have hs : SizeOK (wd n) ac.length (ac.length * 2 ^ n) (2 ^ n) (n : Int) k (padsT n) :=
  ⟨z1, z2, by push_cast; rfl, by omega, q2, q3, fun p c p0 p1 c0 c1 => ended_at h3 (by omega) p0 p1 c0 c1⟩
 obtain ⟨p, hp, hp0, hpl, hpT, hpL⟩ := rightF_law hs hT rfl s0 s1 (f := k) (by omega); have hb : p.1.length * (2 * p.1.length + wd n + 20) ≤ 16001 * 32048 := Nat.mul_le_mul (by omega) (by omega); obtain ⟨r', hr', hd'⟩ := tidiedF_law (t := (n : Int)) hpT rfl hp0 (by omega) (by omega) (k := k) (f := k) (by omega) (by omega); rw [hpL] at hd'; obtain rfl := tidyD_same hd0 hd'; have hwid : spec_l01Wide.f k (n : Int) = some ((wd n : Nat) : Int) := atk (k := 10) (fun k => spec_l01Wide.mono _ k) (by omega) (wideS_fin ⟨n, by omega⟩); show spec_l01Tidied.f k (n : Int) s ac ns = _; unfold spec_l01Tidied.f spec_l01Right.f; rw [hwid]; simp only [Option.bind_some, Int.toNat_natCast]; rw [if_pos ⟨by omega, by omega, by omega, by omega, by omega⟩, hp]; simp only [Option.bind_some]; rw [if_pos ⟨by omega, fun row hrow => by rw [(hpT.2 row hrow).1]; omega⟩, hr']; rfl
section
variable {K : Type} [DecidableEq K] {good : K → Bool} {acc : K → Option Bool} {next : K → Int → Option K} {W : Nat}
theorem growRow_met {nx : Int → Option K} : ∀ (m : Nat) (c : Int) (l : List K) (row : List Int) (l1 : List K) (row1 : List Int), growRow good nx m c l row = some (l1, row1) →
  ∃ e, row1 = row ++ e ∧ e.length = m ∧ l.length ≤ l1.length ∧ ∀ q : Nat, l.length ≤ q → q < l1.length → ∃ j : Nat, j < m ∧ e[j]? = some (q : Int) := by
 intro m
 induction m with
 | zero =>
  intro c l row l1 row1 h; simp only [growRow, Option.some.injEq, Prod.mk.injEq] at h; obtain ⟨rfl, rfl⟩ := h; exact ⟨[], by simp, rfl, Nat.le_refl _, fun q h1 h2 => by omega⟩
 | succ m ih =>
  intro c l row l1 row1 h; simp only [growRow] at h; obtain ⟨t, ht, h⟩ := oB h
  split at h
  ·split at h
   ·obtain ⟨e, he, hm, hl, hq⟩ := ih _ _ _ _ _ h; refine ⟨(l.idxOf t : Int) :: e, by simp [he], by simp [hm], hl, fun q h1 h2 => ?_⟩; obtain ⟨j, hj, hj2⟩ := hq q h1 h2; exact ⟨j + 1, by omega, by simpa using hj2⟩
   ·split at h
    ·obtain ⟨e, he, hm, hl, hq⟩ := ih _ _ _ _ _ h; rw [List.length_append, List.length_singleton] at hl hq; refine ⟨(l.length : Int) :: e, by simp [he], by simp [hm], by omega, fun q h1 h2 => ?_⟩; by_cases e0 : q = l.length
     ·exact ⟨0, by omega, by simp [e0]⟩
     ·obtain ⟨j, hj, hj2⟩ := hq q (by omega) h2; exact ⟨j + 1, by omega, by simpa using hj2⟩
    ·cases h
  ·cases h
def Met (W n : Nat) (rs : List (List Int)) : Prop := ∀ q : Nat, 1 ≤ q → q < n → ∃ (i : Nat) (row : List Int) (j : Nat), i < q ∧ rs[i]? = some row ∧ j < W ∧ row[j]? = some (q : Int)
theorem growL_met : ∀ (f : Nat) (l : List K) (bs : List Bool) (rs : List (List Int)) (r : List Bool × List (List Int)), rs.length = bs.length → bs.length ≤ l.length → Met W l.length rs → growL good acc next W f l bs rs = some r → Met W r.1.length r.2 := by
 intro f
 induction f with
 | zero => intro l bs rs r _ _ _ h; cases h
 | succ f ih =>
  intro l bs rs r hlen hle hM h; simp only [growL] at h
  split at h
  ·next e =>
   obtain rfl := Option.some.inj h; have := List.getElem?_eq_none_iff.1 e; (have e2 : bs.length = l.length := by omega)
   simpa [e2] using hM
  ·next k e =>
   have hi := (List.getElem?_eq_some_iff.1 e).1; obtain ⟨⟨l1, row1⟩, hrow, h⟩ := oB h; obtain ⟨a, ha, h⟩ := oB h; obtain ⟨e1, he1, hm, hl, hq⟩ := growRow_met _ _ _ _ _ _ hrow; rw [List.nil_append] at he1; subst he1; refine ih _ _ _ _ (by simp [hlen]) (by simp; omega) (fun q q1 q2 => ?_) h; by_cases c : q < l.length
   ·obtain ⟨i, row, j, h1, h2, h3, h4⟩ := hM q q1 c; exact ⟨i, row, j, h1, by rw [List.getElem?_append_left (List.getElem?_eq_some_iff.1 h2).1]; exact h2, h3, h4⟩
   ·obtain ⟨j, h3, h4⟩ := hq q (by omega) q2; exact ⟨bs.length, row1, j, by omega, by rw [← hlen]; simp, h3, h4⟩
end
/-- The form of a tidy table. -/
theorem tidyD_table {W f : Nat} {L : List Int → Bool} {r : List Bool × List (List Int)} (h : tidyD W f L = some r) : TableOK W r.1.length r.2 ∧ 0 < r.1.length ∧ r.1.length ≤ 1900000 ∧ Met W r.1.length r.2 := by
 classical
 unfold tidyD at h
 obtain ⟨h1, h2, h3, _⟩ := growL_table (S := fun _ => True) (Λ := fun (L : List Int → Bool) (w : List Int) => L w && w.all fun c => decide (0 ≤ c) && decide (c < (W : Int)))
  (fun k c t _ c0 c1 e => ⟨trivial, fun w => by obtain rfl := Option.some.inj e; simp [c0, c1]⟩) (fun k b _ e => by obtain rfl := Option.some.inj e; simp) (fun k c w hc => by
   by_cases c0 : 0 ≤ c
   ·have : ¬ c < (W : Int) := fun h => hc ⟨c0, h⟩; simp [this]
   ·simp [c0]) (start := L) trivial h
 exact ⟨h1, h2, h3, growL_met _ _ _ _ _ rfl (by simp) (fun q h1 h2 => by simp at h2; omega) h⟩
def mB : Nat → Nat → List Bool
 | _, 0 => []
 | a, n + 1 => (Int.tmod (a : Int) 3 == 0) :: mB (a + 1) n
def mI : Nat → Nat → List Int
 | _, 0 => []
 | a, n + 1 => (a : Int) :: mI (a + 1) n
def mII : Nat → List (List Int) → List (List Int)
 | _, [] => []
 | a, r :: rs => mI a r.length :: mII (a + r.length) rs
def sumL : List (List Int) → Nat
 | [] => 0
 | r :: rs => r.length + sumL rs
instance decTail : DecidableEq (List Bool × List (List Int) × Int) := inferInstance
instance decRel5 : DecidableEq (Int × Int × List Bool × List (List Int) × Int) := fun a b => @instDecidableEqProd _ _ inferInstance (fun x y => @instDecidableEqProd _ _ inferInstance decTail x y) a b
theorem Ev.guard {α β : Type} {g : Nat → Option α} {a : α} {f : Nat → Option β} {r : β} {D : ∀ k, Decidable (g k = some a)} (hg : Ev g a) (h : Ev f r) : Ev (fun k => if g k = some a then f k else none) r := by
 obtain ⟨K, hg⟩ := hg; obtain ⟨L, h⟩ := h; exact ⟨max K L, fun k hk => (if_pos (hg k (by omega))).trans (h k (by omega))⟩
theorem set_mid {α : Type} (p s : List α) (x v : α) : (p ++ x :: s).set p.length v = (p ++ [v]) ++ s := by simp
theorem getD_mid {α : Type} (d : α) (p s : List α) (x : α) : (p ++ x :: s).getD p.length d = x := by simp [List.getD_eq_getElem?_getD]
theorem markInt_l0 : ∀ (s p : List Int) (a : Nat), a + s.length ≤ 1152921504606846976 → p.length + s.length ≤ 35184372088832 → Ev (fun k => laws_markInt64S.l0 k (p ++ s) (a : Int) (p.length : Int)) (((a + s.length : Nat) : Int), p ++ mI a s.length) := by
 intro s
 induction s with
 | nil =>
  intro p a h1 h2; apply Ev.succ; simp only [laws_markInt64S.l0]; refine Ev.neg (by simp) ?_; exact Ev.const (by simp [mI])
 | cons x s ih =>
  intro p a h1 h2; simp only [List.length_cons] at h1 h2; apply Ev.succ; simp only [laws_markInt64S.l0]; refine Ev.pos (by simp; omega) (Ev.pos (by omega) ?_); rw [w64 (by omega) (by omega), w64 (by omega) (by omega), Int.toNat_natCast, set_mid]; have h := ih (p ++ [(a : Int)]) (a + 1) (by omega) (by simp; omega); (have e1 : (((p ++ [(a : Int)]).length : Nat) : Int) = (p.length : Int) + 1 := by simp); rw [e1] at h; (have e2 : ((a + 1 : Nat) : Int) = (a : Int) + 1 := by omega); rw [e2] at h; (have e3 : (p ++ [(a : Int)]) ++ mI (a + 1) s.length = p ++ mI a (x :: s).length := by simp [mI]); rw [e3, show a + 1 + s.length = a + (x :: s).length by simp; omega] at h; exact h
theorem markInt_ev (l : List Int) (a : Nat) (h1 : a + l.length ≤ 1152921504606846976) (h2 : l.length ≤ 35184372088832) : Ev (fun k => laws_markInt64S.f k l (a : Int)) (((a + l.length : Nat) : Int), mI a l.length) := by
 have h := markInt_l0 l [] a h1 (by simpa using h2)
 simpa [laws_markInt64S.f] using h
theorem heldInt_l0 : ∀ (n a : Nat) (p : List Int), a + n ≤ 1152921504606846976 → p.length + n ≤ 35184372088832 → Ev (fun k => laws_heldInt64S.l0 k (p ++ mI a n) (a : Int) (p.length : Int)) ((a + n : Nat) : Int) := by
 intro n
 induction n with
 | zero =>
  intro a p h1 h2; apply Ev.succ; simp only [laws_heldInt64S.l0, mI, List.append_nil]; exact Ev.neg (by omega) (Ev.const (by simp))
 | succ n ih =>
  intro a p h1 h2; apply Ev.succ; simp only [laws_heldInt64S.l0, mI]; refine Ev.pos (by simp; omega) (Ev.pos (by omega) (Ev.pos ?_ ?_))
  ·unfold rd; rw [Int.toNat_natCast, getD_mid]
  ·rw [w64 (by omega) (by omega), w64 (by omega) (by omega)]; have h := ih (a + 1) (p ++ [(a : Int)]) (by omega) (by simp; omega); (have e1 : (((p ++ [(a : Int)]).length : Nat) : Int) = (p.length : Int) + 1 := by simp); (have e2 : ((a + 1 : Nat) : Int) = (a : Int) + 1 := by omega); rw [e1, e2, List.append_assoc, show a + 1 + n = a + (n + 1) by omega] at h; exact h
theorem heldInt_ev (n a : Nat) (h1 : a + n ≤ 1152921504606846976) (h2 : n ≤ 35184372088832) : Ev (fun k => laws_heldInt64S.f k (mI a n) (a : Int)) ((a + n : Nat) : Int) := by
 have h := heldInt_l0 n a [] h1 (by simpa using h2)
 simpa [laws_heldInt64S.f] using h
theorem sumL_le {rs : List (List Int)} {N : Nat} (h : ∀ x ∈ rs, x.length ≤ N) : sumL rs ≤ rs.length * N := by
 induction rs with
 | nil => simp [sumL]
 | cons r rs ih =>
  have h1 := ih (fun x hx => h x (List.mem_cons_of_mem _ hx)); have h2 := h r (by simp); simp only [sumL, List.length_cons, Nat.add_mul]; omega
theorem markBool_l0 : ∀ (s p : List Bool) (a : Nat), a + s.length ≤ 1152921504606846976 → p.length + s.length ≤ 35184372088832 → Ev (fun k => laws_markBoolS.l0 k (p ++ s) (a : Int) (p.length : Int)) (((a + s.length : Nat) : Int), p ++ mB a s.length) := by
 intro s
 induction s with
 | nil =>
  intro p a h1 h2; apply Ev.succ; simp only [laws_markBoolS.l0]; refine Ev.neg (by simp) ?_; exact Ev.const (by simp [mB])
 | cons x s ih =>
  intro p a h1 h2; simp only [List.length_cons] at h1 h2; apply Ev.succ; simp only [laws_markBoolS.l0]; refine Ev.pos (by simp; omega) (Ev.pos (by omega) ?_); rw [w64 (by omega) (by omega), w64 (by omega) (by omega), Int.toNat_natCast, set_mid]; have h := ih (p ++ [Int.tmod (a : Int) 3 == 0]) (a + 1) (by omega) (by simp; omega); (have e1 : (((p ++ [Int.tmod (a : Int) 3 == 0]).length : Nat) : Int) = (p.length : Int) + 1 := by simp); rw [e1] at h; (have e2 : ((a + 1 : Nat) : Int) = (a : Int) + 1 := by omega); rw [e2] at h; (have e3 : (p ++ [Int.tmod (a : Int) 3 == 0]) ++ mB (a + 1) s.length = p ++ mB a (x :: s).length := by simp [mB]); rw [e3, show a + 1 + s.length = a + (x :: s).length by simp; omega] at h; exact h
theorem markBool_ev (l : List Bool) (a : Nat) (h1 : a + l.length ≤ 1152921504606846976) (h2 : l.length ≤ 35184372088832) : Ev (fun k => laws_markBoolS.f k l (a : Int)) (((a + l.length : Nat) : Int), mB a l.length) := by
 have h := markBool_l0 l [] a h1 (by simpa using h2)
 simpa [laws_markBoolS.f] using h
theorem heldBool_l0 : ∀ (n a : Nat) (p : List Bool), a + n ≤ 1152921504606846976 → p.length + n ≤ 35184372088832 → Ev (fun k => laws_heldBoolS.l0 k (p ++ mB a n) (a : Int) (p.length : Int)) ((a + n : Nat) : Int) := by
 intro n
 induction n with
 | zero =>
  intro a p h1 h2; apply Ev.succ; simp only [laws_heldBoolS.l0, mB, List.append_nil]; exact Ev.neg (by omega) (Ev.const (by simp))
 | succ n ih =>
  intro a p h1 h2; apply Ev.succ; simp only [laws_heldBoolS.l0, mB]; refine Ev.pos (by simp; omega) (Ev.pos (by omega) (Ev.neg ?_ ?_))
  ·rw [show rdOf false (p ++ (Int.tmod (a : Int) 3 == 0) :: mB (a + 1) n) (p.length : Int) = (Int.tmod (a : Int) 3 == 0) by unfold rdOf; rw [Int.toNat_natCast, getD_mid]]; simp
  ·rw [w64 (by omega) (by omega), w64 (by omega) (by omega)]; have h := ih (a + 1) (p ++ [Int.tmod (a : Int) 3 == 0]) (by omega) (by simp; omega); (have e1 : (((p ++ [Int.tmod (a : Int) 3 == 0]).length : Nat) : Int) = (p.length : Int) + 1 := by simp); (have e2 : ((a + 1 : Nat) : Int) = (a : Int) + 1 := by omega); rw [e1, e2, List.append_assoc, show a + 1 + n = a + (n + 1) by omega] at h; exact h
theorem heldBool_ev (n a : Nat) (h1 : a + n ≤ 1152921504606846976) (h2 : n ≤ 35184372088832) : Ev (fun k => laws_heldBoolS.f k (mB a n) (a : Int)) ((a + n : Nat) : Int) := by
 have h := heldBool_l0 n a [] h1 (by simpa using h2)
 simpa [laws_heldBoolS.f] using h
theorem markInts_l0 : ∀ (s p : List (List Int)) (a : Nat), a + sumL s ≤ 1152921504606846976 → p.length + s.length ≤ 35184372088832 → (∀ x ∈ s, x.length ≤ 35184372088832) →
  Ev (fun k => laws_markInt64SS.l0 k (p ++ s) (a : Int) (p.length : Int)) (((a + sumL s : Nat) : Int), p ++ mII a s) := by
 intro s
 induction s with
 | nil =>
  intro p a h1 h2 _; apply Ev.succ; simp only [laws_markInt64SS.l0]; refine Ev.neg (by simp) ?_; exact Ev.const (by simp [mII, sumL])
 | cons x s ih =>
  intro p a h1 h2 h3; simp only [List.length_cons, sumL] at h1 h2; apply Ev.succ; simp only [laws_markInt64SS.l0]; refine Ev.pos (by simp; omega) (Ev.pos (by omega) ?_); rw [Int.toNat_natCast, getD_mid, w64 (by omega) (by omega)]; refine Ev.bind (markInt_ev x a (by omega) (h3 x (by simp))) ?_; simp only; rw [set_mid]; have h := ih (p ++ [mI a x.length]) (a + x.length) (by omega) (by simp; omega) (fun y hy => h3 y (List.mem_cons_of_mem _ hy)); (have e1 : (((p ++ [mI a x.length]).length : Nat) : Int) = (p.length : Int) + 1 := by simp); rw [e1, List.append_assoc (cs := mII _ _), show a + x.length + sumL s = a + sumL (x :: s) by simp [sumL]; omega] at h; exact h
theorem markInts_ev (l : List (List Int)) (a : Nat) (h1 : a + sumL l ≤ 1152921504606846976) (h2 : l.length ≤ 35184372088832) (h3 : ∀ x ∈ l, x.length ≤ 35184372088832) : Ev (fun k => laws_markInt64SS.f k l (a : Int)) (((a + sumL l : Nat) : Int), mII a l) := by
 have h := markInts_l0 l [] a h1 (by simpa using h2) h3
 simpa [laws_markInt64SS.f] using h
theorem heldInts_l0 : ∀ (s p : List (List Int)) (a : Nat), a + sumL s ≤ 1152921504606846976 → p.length + s.length ≤ 35184372088832 → (∀ x ∈ s, x.length ≤ 35184372088832) →
  Ev (fun k => laws_heldInt64SS.l0 k (p ++ mII a s) (a : Int) (p.length : Int)) ((a + sumL s : Nat) : Int) := by
 intro s
 induction s with
 | nil =>
  intro p a h1 h2 _; apply Ev.succ; simp only [laws_heldInt64SS.l0, mII, List.append_nil]; exact Ev.neg (by omega) (Ev.const (by simp [sumL]))
 | cons x s ih =>
  intro p a h1 h2 h3; simp only [List.length_cons, sumL] at h1 h2; apply Ev.succ; simp only [laws_heldInt64SS.l0, mII]; refine Ev.pos (by simp; omega) (Ev.pos (by omega) ?_); rw [w64 (by omega) (by omega), rd4_nat _ _ (by simp)]; rw [show (p ++ mI a x.length :: mII (a + x.length) s)[p.length] = mI a x.length by simp]; refine Ev.bind (heldInt_ev x.length a (by omega) (h3 x (by simp))) (Ev.neg (by omega) ?_); have h := ih (p ++ [mI a x.length]) (a + x.length) (by omega) (by simp; omega) (fun y hy => h3 y (List.mem_cons_of_mem _ hy)); (have e1 : (((p ++ [mI a x.length]).length : Nat) : Int) = (p.length : Int) + 1 := by simp); rw [e1, List.append_assoc, show a + x.length + sumL s = a + sumL (x :: s) by simp [sumL]; omega] at h; exact h
theorem heldInts_ev (l : List (List Int)) (a : Nat) (h1 : a + sumL l ≤ 1152921504606846976) (h2 : l.length ≤ 35184372088832) (h3 : ∀ x ∈ l, x.length ≤ 35184372088832) : Ev (fun k => laws_heldInt64SS.f k (mII a l) (a : Int)) ((a + sumL l : Nat) : Int) := by
 have h := heldInts_l0 l [] a h1 (by simpa using h2) h3
 simpa [laws_heldInt64SS.f] using h
theorem sum_small {ac : List Bool} {ns : List (List Int)} (h : SzOK ac ns) : sumL ns ≤ 1099511627776 := by
 have := sumL_le h.2.2; have h2 : ns.length * 1048576 ≤ 1048576 * 1048576 := Nat.mul_le_mul_right _ h.2.1; omega
theorem heldRel_ev (t s : Int) (ac : List Bool) (ns : List (List Int)) (h : SzOK ac ns) (a : Nat) (ha : a ≤ 1048576) : Ev (fun k => laws_heldRelation.f k t s (mB a ac.length) (mII (a + ac.length) ns) (a : Int)) ((a + ac.length + sumL ns : Nat) : Int) := by
 have h0 := sum_small h; have h1 := h.1; have h2 := h.2.1; unfold laws_heldRelation.f; refine Ev.bind (heldBool_ev ac.length a (by omega) (by omega)) (Ev.neg (by omega) ?_); refine Ev.bind (heldInts_ev ns (a + ac.length) (by omega) (by omega) (fun x hx => by have := h.2.2 x hx; omega)) (Ev.neg (by omega) (Ev.now _))
theorem clone_eq (l : List Bool) (h : l.length ≤ 1000000000) : slices_Clone_bool_bool.f l = some l := by
 unfold slices_Clone_bool_bool.f; simp; exact h
theorem machineOf_l0 (t s : Int) (ac : List Bool) (ns : List (List Int)) (hl : ns.length ≤ 1048576) (hr : ∀ x ∈ ns, x.length ≤ 1048576) (d : Nat) : ∀ i : Nat, i + d = ns.length → Ev (fun k => impl_machineOf.l0 k ns (ns.length : Int) (i : Int) t s ac (ns.take i)) (t, s, ac, ns) := by
 induction d with
 | zero =>
  intro i hi; apply Ev.succ; simp only [impl_machineOf.l0]; refine Ev.neg (by omega) (Ev.const ?_); rw [List.take_of_length_le (by omega)]
 | succ d ih =>
  intro i hi; apply Ev.succ; simp only [impl_machineOf.l0]; refine Ev.pos (by omega) (Ev.pos (by omega) (Ev.pos (by omega) ?_)); rw [rd4_nat ns i (by omega)]; have hri := hr _ (List.getElem_mem (show i < ns.length by omega))
  have inner : ∀ (e j : Nat), j + e = ns[i].length → Ev (fun k => impl_machineOf.l1 k (ns[i].take j) ns (ns.length : Int) (i : Int) ns[i] (ns[i].length : Int) (j : Int) t s ac (ns.take i)) (t, s, ac, ns) := by
   intro e
   induction e with
   | zero =>
    intro j hj; apply Ev.succ; simp only [impl_machineOf.l1]; refine Ev.neg (by omega) (Ev.pos (by simp; omega) ?_); rw [w64 (by omega) (by omega), show ns[i].take j = ns[i] from List.take_of_length_le (by omega), List.take_append_getElem (show i < ns.length by omega)]; exact ih (i + 1) (by omega)
   | succ e ihe =>
    intro j hj; apply Ev.succ; simp only [impl_machineOf.l1]; refine Ev.pos (by omega) (Ev.pos (by omega) (Ev.pos (by omega) (Ev.pos (by simp; omega) ?_))); rw [w64 (by omega) (by omega), rd_nat _ _ (by omega), List.take_append_getElem (by omega)]; exact ihe (j + 1) (by omega)
  exact inner ns[i].length 0 (by omega)
theorem machineOf_ev (t s : Int) (ac : List Bool) (ns : List (List Int)) (h : SzOK ac ns) : Ev (fun k => impl_machineOf.f k t s ac ns) (t, s, ac, ns) := by
 unfold impl_machineOf.f; exact Ev.bind (Ev.const (clone_eq ac (by have := h.1; omega))) (machineOf_l0 t s ac ns h.2.1 h.2.2 ns.length 0 (by omega))
theorem asLongs_l0 (l : List Int) (hl : l.length ≤ 1048576) (d : Nat) : ∀ i : Nat, i + d = l.length → Ev (fun k => impl_asLongs.l0 k (l.take i) l (l.length : Int) (i : Int)) l := by
 induction d with
 | zero =>
  intro i hi; apply Ev.succ; simp only [impl_asLongs.l0]; refine Ev.neg (by omega) (Ev.const ?_); rw [List.take_of_length_le (by omega)]
 | succ d ih =>
  intro i hi; apply Ev.succ; simp only [impl_asLongs.l0]; refine Ev.pos (by omega) (Ev.pos (by omega) (Ev.pos (by omega) (Ev.pos (by simp; omega) ?_))); rw [w64 (by omega) (by omega), rd_nat _ _ (by omega), List.take_append_getElem (by omega)]; exact ih (i + 1) (by omega)
theorem asLongs_ev (l : List Int) (hl : l.length ≤ 1048576) : Ev (fun k => impl_asLongs.f k l) l := asLongs_l0 l hl l.length 0 (by omega)
theorem relationOf_l0 (t s : Int) (ac : List Bool) (ns : List (List Int)) (hl : ns.length ≤ 1048576) (hr : ∀ x ∈ ns, x.length ≤ 1048576) (d : Nat) : ∀ i : Nat, i + d = ns.length → Ev (fun k => impl_machine_relationOf.l0 k ns (ns.length : Int) (i : Int) t s ac (ns.take i)) (t, s, ac, ns, 0) := by
 induction d with
 | zero =>
  intro i hi; apply Ev.succ; simp only [impl_machine_relationOf.l0]; refine Ev.neg (by omega) (Ev.const ?_); rw [List.take_of_length_le (by omega)]
 | succ d ih =>
  intro i hi; apply Ev.succ; simp only [impl_machine_relationOf.l0]; refine Ev.pos (by omega) (Ev.pos (by omega) (Ev.pos (by omega) ?_)); refine Ev.bind (a := ns[i]) (by have h_ := asLongs_ev ns[i] (hr _ (List.getElem_mem (by omega))); have e_ : ns.getD (i : Int).toNat [] = ns[i] := (by simp [List.getD_eq_getElem?_getD, show i < ns.length by omega]); rw [← e_] at h_ ⊢; exact h_) (Ev.pos (by simp; omega) ?_); rw [w64 (by omega) (by omega), List.take_append_getElem (by omega)]; exact ih (i + 1) (by omega)
/-- What is told of a tidy table: too many states, or the table. -/
def told (t s : Int) (ac : List Bool) (ns : List (List Int)) : Int × Int × List Bool × List (List Int) × Int := if ac.length ≤ 150 then (t, s, ac, ns, 0) else (0, 0, [], [], 3)
theorem relationOf_ev (t s : Int) (ac : List Bool) (ns : List (List Int)) (h2 : ac.length = ns.length) (hr : ∀ x ∈ ns, x.length ≤ 1048576) : Ev (fun k => impl_machine_relationOf.f k t s ac ns) (told t s ac ns) := by
 unfold impl_machine_relationOf.f told; by_cases c : ac.length ≤ 150
 ·rw [if_pos c]; exact Ev.neg (by omega) (Ev.bind (Ev.const (clone_eq ac (by omega))) (relationOf_l0 t s ac ns (by omega) hr ns.length 0 (by omega)))
 ·rw [if_neg c]; exact Ev.pos (by omega) (Ev.now _)
theorem told_ok {W : Nat} {t s : Int} {ac : List Bool} {ns : List (List Int)} (hT : TableOK W ac.length ns) (hW : W ≤ 1000) : SzOK (told t s ac ns).2.2.1 (told t s ac ns).2.2.2.1 := by
 unfold told
 split
 ·exact ⟨by simp only; omega, by simp only; rw [hT.1]; omega, fun x hx => by simp only at hx; rw [(hT.2 x hx).1]; omega⟩
 ·exact ⟨by simp, by simp, by simp⟩
theorem spec_okv_ev (t s : Int) (ac : List Bool) (ns : List (List Int)) (h : SzOK ac ns) : Ev (fun k => spec_l01Ok_v.f k t s ac ns) (okRel t s ac ns) := by
 unfold spec_l01Ok_v.f; exact Ev.bind (spec_ok_ev t s ac ns h) (Ev.pos ⟨rfl, rfl⟩ (Ev.now _))
theorem spec_tidiedv_ev {n : Nat} {s : Int} {ac : List Bool} {ns : List (List Int)} {r : List Bool × List (List Int)} (h : Ev (fun k => spec_l01Tidied.f k (n : Int) s ac ns) ((n : Int), 0, r.1, r.2, (n : Int), s)) : Ev (fun k => spec_l01Tidied_v.f k (n : Int) s ac ns) ((n : Int), 0, r.1, r.2) := by
 unfold spec_l01Tidied_v.f; exact Ev.bind h (Ev.now _)
section
variable {W V N : Nat} {C : Nat → Nat} {ns : List (List Int)}
theorem mapC_range (hT : TableOK V N ns) (hC : ∀ c, c < W → C c ≤ V) {q c : Nat} (hq : q < N) (hc : c < W) : 0 ≤ X.mapC C V ns q c ∧ X.mapC C V ns q c < (N : Int) := by
 unfold X.mapC; by_cases e : C c = V
 ·rw [if_pos e]; omega
 ·rw [if_neg e]; (have hl : q < ns.length := by rw [hT.1]; exact hq); have hrow := hT.2 _ (List.getElem_mem hl); (have hlt : C c < (ns[q]).length := by rw [hrow.1]; have := hC c hc; omega); have := hrow.2 _ (List.getElem_mem hlt); simp only [List.getD_eq_getElem?_getD, List.getElem?_eq_getElem hl, Option.getD_some, List.getElem?_eq_getElem hlt]; exact this
theorem tab_ok (hT : TableOK V N ns) (hC : ∀ c, c < W → C c ≤ V) : TableOK W N (X.tabN N W (X.mapC C V ns)) := by
 refine ⟨X.tabN_len _ _ _, fun row hrow => ⟨X.tabN_row hrow, fun x hx => ?_⟩⟩; simp only [X.tabN, List.mem_map, List.mem_range] at hrow; obtain ⟨q, hq, rfl⟩ := hrow; simp only [X.tabR, List.mem_map, List.mem_range] at hx; obtain ⟨c, hc, rfl⟩ := hx; exact mapC_range hT hC hq hc
end
theorem contains64_l0 (l : List Int) (x : Int) (hn : l.length ≤ 2000000) (d : Nat) : ∀ i : Nat, i + d = l.length → ∃ j : Int, Ev (fun k => slices_Index_int64_int64.l0 k l x (l.length : Int) (i : Int)) j ∧ (0 ≤ j ↔ x ∈ l.drop i) := by
 induction d with
 | zero =>
  intro i hi; refine ⟨-1, Ev.succ ?_, ?_⟩
  ·simp only [slices_Index_int64_int64.l0]; exact Ev.neg (by omega) (Ev.now _)
  ·rw [List.drop_of_length_le (by omega)]; simp
 | succ d ih =>
  intro i hi; obtain ⟨j, h1, h2⟩ := ih (i + 1) (by omega); by_cases c : x = l[i]
  ·refine ⟨(i : Int), Ev.succ ?_, ?_⟩
   ·simp only [slices_Index_int64_int64.l0]; refine Ev.pos (by omega) (Ev.pos (by omega) (Ev.pos (by omega) (Ev.pos ?_ (Ev.now _)))); rw [rd_nat l i (by omega)]; exact c
   ·rw [List.drop_eq_getElem_cons (by omega), ← c]; simp
  ·refine ⟨j, Ev.succ ?_, ?_⟩
   ·simp only [slices_Index_int64_int64.l0]; refine Ev.pos (by omega) (Ev.pos (by omega) (Ev.pos (by omega) (Ev.neg ?_ ?_)))
    ·rw [rd_nat l i (by omega)]; exact c
    ·rw [w64 (by omega) (by omega)]; exact h1
   ·rw [h2, List.drop_eq_getElem_cons (show i < l.length by omega), List.mem_cons]; exact ⟨Or.inr, fun h => h.resolve_left c⟩
theorem contains64_ev (l : List Int) (x : Int) (hn : l.length ≤ 2000000) : Ev (fun k => slices_Contains_int64_int64.f k l x) (decide (x ∈ l)) := by
 obtain ⟨j, h1, h2⟩ := contains64_l0 l x hn l.length 0 (by omega)
 have e : decide (x ∈ l) = decide (j ≥ 0) := by
  rw [List.drop_zero] at h2; exact decide_eq_decide.mpr h2.symm
 rw [e]; unfold slices_Contains_int64_int64.f slices_Index_int64_int64.f; exact Ev.bind h1 (Ev.now _)
theorem rdOf_set (sn : List Bool) (x y : Int) (x0 : 0 ≤ x) (y0 : 0 ≤ y) (hx : x < (sn.length : Int)) : rdOf false (sn.set x.toNat true) y = true ↔ (y = x ∨ rdOf false sn y = true) := by
 unfold rdOf; rw [List.getD_eq_getElem?_getD, List.getD_eq_getElem?_getD, List.getElem?_set]; by_cases e : x.toNat = y.toNat
 ·(have : y = x := by omega); subst this; simp only [if_true, true_or, iff_true]; rw [if_pos (by omega)]; rfl
 ·rw [if_neg e]; have : y ≠ x := fun h => e (by rw [h]); simp [this]
/-- The program's search in what came before, and the marks of the reference, say the same. -/
theorem order_ev (n : Nat) (order : List Int) (ho : order.length ≤ 2000000) : ∀ m i sn, i + m = order.length → sn.length = n → (∀ x : Int, 0 ≤ x → x < (n : Int) → (rdOf false sn x = true ↔ x ∈ order.take i)) → Ev (fun k => isOrdL k (n : Int) order m i) (seenB (n : Int) order m i sn) := by
 intro m
 induction m with
 | zero => intro i sn _ _ _; exact Ev.now _
 | succ m ih =>
  intro i sn hi hl hm; (have hlt : i < order.length := by omega); (have er : order.getD i 0 = order[i] := by simp [List.getD_eq_getElem?_getD, List.getElem?_eq_getElem hlt]); simp only [isOrdL, seenB, er]; by_cases c : 0 ≤ order[i] ∧ order[i] ≤ (n : Int) - 1
  case neg => rw [if_neg c]; exact Ev.neg c (Ev.now _)
  rw [if_pos c]; have hx := hm order[i] c.1 (by omega); refine Ev.pos c (Ev.bind (contains64_ev (order.take i) order[i] (by rw [List.length_take]; omega)) ?_); by_cases s : rdOf false sn order[i] = true
  ·rw [if_pos s]; exact Ev.pos (by rw [decide_eq_true_eq]; exact hx.1 s) (Ev.now _)
  ·rw [if_neg s]; refine Ev.neg (by rw [decide_eq_true_eq]; exact fun h => s (hx.2 h)) (ih (i + 1) _ (by omega) (by rw [List.length_set]; exact hl) (fun y y0 y1 => ?_)); rw [rdOf_set sn _ y c.1 y0 (by omega), hm y y0 y1, List.take_succ_eq_append_getElem hlt, List.mem_append, List.mem_singleton]; exact or_comm
theorem rdOf_rep (n : Nat) (x : Int) : rdOf false (List.replicate n false) x = false := by
 unfold rdOf; rw [List.getD_eq_getElem?_getD, List.getElem?_replicate]
 split <;> rfl
theorem isOrd_ev (n : Nat) (order : List Int) (ho : order.length ≤ 2000000) : Ev (fun k => isOrdF k (n : Int) order) (seenB (n : Int) order order.length 0 (List.replicate n false) && decide ((order.length : Int) = (n : Int))) := by
 unfold isOrdF; by_cases c : (order.length : Int) = (n : Int)
 ·rw [decide_eq_true c, Bool.and_true]; refine Ev.pos c (order_ev n order ho order.length 0 _ (by omega) List.length_replicate (fun x _ _ => ?_)); rw [rdOf_rep]; simp
 ·rw [decide_eq_false c, Bool.and_false]; exact Ev.neg c (Ev.now _)
theorem seenB_range (t : Int) (order : List Int) : ∀ m i sn, seenB t order m i sn = true → ∀ j, i ≤ j → j < i + m → 0 ≤ order.getD j 0 ∧ order.getD j 0 ≤ t - 1 := by
 intro m
 induction m with
 | zero => intro i sn _ j h1 h2; omega
 | succ m ih =>
  intro i sn h j h1 h2; simp only [seenB] at h; by_cases c : 0 ≤ order.getD i 0 ∧ order.getD i 0 ≤ t - 1
  case neg => rw [if_neg c] at h; cases h
  rw [if_pos c] at h; by_cases s : rdOf false sn (order.getD i 0) = true
  ·rw [if_pos s] at h; cases h
  ·rw [if_neg s] at h; by_cases e : j = i
   ·subst e; exact c
   ·exact ih (i + 1) _ h j (by omega) (by omega)
/-- All rows of some length over the first numbers. -/
def allL (n : Nat) : Nat → List (List Int)
 | 0 => [[]]
 | m + 1 => (List.range n).flatMap fun (a : Nat) => (allL n m).map fun l => (Int.ofNat a :: l)
theorem mem_allL (n : Nat) : ∀ l : List Int, (∀ x ∈ l, 0 ≤ x ∧ x < (n : Int)) → l ∈ allL n l.length := by
 intro l
 induction l with
 | nil => intro _; simp [allL]
 | cons x l ih =>
  intro h; have hx := h x (List.mem_cons_self ..); simp only [List.length_cons, allL, List.mem_flatMap, List.mem_range, List.mem_map]; exact ⟨x.toNat, by omega, l, ih (fun y hy => h y (List.mem_cons_of_mem _ hy)), by congr 1; show ((x.toNat : Nat) : Int) = x; omega⟩
/-- Everything that is asked of n tapes and an order, to be evaluated. -/
def moveFin (n : Nat) (order : List Int) : Bool :=
 !(seenB (n : Int) order n 0 (List.replicate n false)) ||
 ((impl_widthOf.f 20 (n : Int) == some ((wd n : Nat) : Int)) && (spec_l01Wide.f 20 (n : Int) == some ((wd n : Nat) : Int)) &&
 ((List.range (wd n)).all fun c =>
  (((impl_digitsOf.f 20 (n : Int) (c : Int)).bind fun ds => (ordF order ds).bind fun rs => impl_columnOf.f 20 rs) == some ((colO (n : Int) order c : Nat) : Int)) && decide (colO (n : Int) order c < wd n) &&
  (putF 20 (c : Int) (placesL order order.length) == some ((colM order c : Nat) : Int)) && decide (colM order c = colO (n : Int) order c)))
theorem moveFin_all : ∀ n : Fin 4, 1 ≤ n.val → ∀ order ∈ allL n.val n.val, moveFin n.val order = true := by decide +kernel
theorem moveFin_of {n : Nat} {order : List Int} (h1 : 1 ≤ n) (h3 : n ≤ 3) (hl : order.length = n) (hs : seenB (n : Int) order order.length 0 (List.replicate n false) = true) :
  (∀ x ∈ order, 0 ≤ x ∧ x < (n : Int)) ∧ moveFin n order = true := by
 have hr : ∀ x ∈ order, 0 ≤ x ∧ x < (n : Int) := by
  intro x hx; obtain ⟨j, hj, e⟩ := List.getElem_of_mem hx; have h := seenB_range _ _ _ _ _ hs j (by omega) (by omega); rw [show order.getD j 0 = x by rw [List.getD_eq_getElem?_getD, List.getElem?_eq_getElem hj, e]; rfl] at h; omega
 refine ⟨hr, moveFin_all ⟨n, by omega⟩ h1 order ?_⟩; have h := mem_allL n order hr; rw [hl] at h; exact h
theorem move_core {n : Nat} {s : Int} {ac : List Bool} {ns : List (List Int)} {order : List Int} (h1 : 1 ≤ n) (h3 : n ≤ 3) (hl2 : ac.length ≤ 2000) (s0 : 0 ≤ s) (s1 : s < (ac.length : Int)) (hT : TableOK (wd n) ac.length ns)
  (hl : order.length = n) (hs : seenB (n : Int) order order.length 0 (List.replicate n false) = true) :
  ∃ R : List Bool × List (List Int), SzOK (told (n : Int) 0 R.1 R.2).2.2.1 (told (n : Int) 0 R.1 R.2).2.2.2.1 ∧ Ev (fun k => spec_l02Moved_v.f k (n : Int) s ac ns order) ((n : Int), 0, R.1, R.2) ∧ MovP (n : Int) order ∧ wI2 (n : Int) = wd n ∧
   Ev (fun k => impl_machine_tidied.f k (n : Int) s ac (X.tabN ac.length (wI2 (n : Int)) (X.mapC (colO (n : Int) order) (wI2 (n : Int)) ns))) (told (n : Int) 0 R.1 R.2) := by
 obtain ⟨hr, hf⟩ := moveFin_of h1 h3 hl hs; unfold moveFin at hf; rw [hl] at hs; rw [hs] at hf; simp only [Bool.not_true, Bool.false_or, Bool.and_eq_true, beq_iff_eq, List.all_eq_true, List.mem_range, decide_eq_true_eq] at hf; obtain ⟨⟨f1, f2⟩, f3⟩ := hf; (have ewI : wI2 (n : Int) = wd n := by simp [wI2, f1]); (have ewM : wM (n : Int) = wd n := by simp [wM, f2]); have hW := wd_le n h3
 have hPI : MovP (n : Int) order := by
  unfold MovP; rw [ewI]; exact ⟨f1, by omega, by omega, by omega, fun c hc => ⟨(f3 c hc).1.1.1, Nat.le_of_lt (f3 c hc).1.1.2⟩⟩
 have hPM : MovQ (n : Int) order := by
  unfold MovQ; rw [ewM]; exact ⟨f2, by omega, by omega, by rw [hl]; exact hr, fun c hc => ⟨(f3 c hc).1.2, by rw [(f3 c hc).2]; exact (f3 c hc).1.1.2⟩⟩
 have hCV : ∀ c, c < wd n → colO (n : Int) order c ≤ wd n := fun c hc => Nat.le_of_lt (f3 c hc).1.1.2
 have etab : X.tabN ac.length (wd n) (X.mapC (colM order) (wd n) ns) = X.tabN ac.length (wd n) (X.mapC (colO (n : Int) order) (wd n) ns) := by
  unfold X.tabN X.tabR; refine List.map_congr_left (fun q _ => List.map_congr_left (fun c hc => ?_)); unfold X.mapC; rw [(f3 c (List.mem_range.1 hc)).2]
 have T1 := tab_ok hT hCV; obtain ⟨R, hR, hiR⟩ := impl_tidy_ev h1 h3 hl2 s0 s1 T1; have hsR := spec_tidied_ev h1 h3 hl2 s0 s1 T1 hR; obtain ⟨g1, g2, g3, g4⟩ := tidyD_table hR.choose_spec; refine ⟨R, told_ok g1 (by omega), ?_, hPI, ewI, ?_⟩
 ·unfold spec_l02Moved_v.f; refine Ev.pos ⟨hPM, hl2, by rw [ewM]; exact hT⟩ ?_; rw [ewM, etab]; exact spec_tidiedv_ev hsR
 ·rw [ewI]; unfold impl_machine_tidied.f; exact Ev.bind hiR (Ev.bind (relationOf_ev _ _ _ _ g1.1.symm (fun x hx => by rw [(g1.2 x hx).1]; omega)) (Ev.now _))
theorem zero_ok (x : Int) : SzOK ((0 : Int), (0 : Int), ([] : List Bool), ([] : List (List Int)), x).2.2.1 ((0 : Int), (0 : Int), ([] : List Bool), ([] : List (List Int)), x).2.2.2.1 := ⟨by simp, by simp, by simp⟩
theorem told_ev {n : Nat} {R : List Bool × List (List Int)} {g : Nat → Option (Int × Int × List Bool × List (List Int))} (h : Ev g ((n : Int), 0, R.1, R.2)) :
  Ev (fun k => (g k).bind fun p => if p.2.2.1.length ≤ 150 then some (p.1, p.2.1, p.2.2.1, p.2.2.2, (0 : Int)) else some (0, 0, [], [], 3)) (told (n : Int) 0 R.1 R.2) := by
 refine Ev.bind h ?_; by_cases cc : R.1.length ≤ 150
 ·rw [show told (n : Int) 0 R.1 R.2 = ((n : Int), 0, R.1, R.2, 0) from if_pos cc]; exact Ev.pos cc (Ev.now _)
 ·rw [show told (n : Int) 0 R.1 R.2 = (0, 0, [], [], 3) from if_neg cc]; exact Ev.neg cc (Ev.now _)
theorem moveTapes_both {t s : Int} {ac : List Bool} {ns : List (List Int)} {order : List Int} (h : SzOK ac ns) (ho : order.length ≤ 2000000) :
  ∃ r : Int × Int × List Bool × List (List Int) × Int, SzOK r.2.2.1 r.2.2.2.1 ∧ Ev (fun k => movS k t s ac ns order) r ∧ Ev (fun k => movI k t s ac ns order) r := by
 have e1 := spec_okv_ev t s ac ns h; have e2 := impl_ValidRelation_ev t s ac ns h; by_cases hv : okRel t s ac ns = true
 case neg =>
  refine ⟨(0, 0, [], [], 1), zero_ok 1, ?_, ?_⟩
  ·unfold movS; exact Ev.bind e1 (Ev.neg hv (Ev.now _))
  ·unfold movI; exact Ev.bind e2 (Ev.neg hv (Ev.now _))
 obtain ⟨n, rfl, h1, h3, hl1, hl, s0, s1, hT⟩ := okRel_parts hv; have i2 := isOrd_ev n order ho; by_cases hc : seenB (n : Int) order order.length 0 (List.replicate n false) = true ∧ (order.length : Int) = (n : Int)
 case neg =>
  have hb : ¬ (seenB (n : Int) order order.length 0 (List.replicate n false) && decide ((order.length : Int) = (n : Int))) = true := by
   rw [Bool.and_eq_true, decide_eq_true_eq]; exact hc
  refine ⟨(0, 0, [], [], 2), zero_ok 2, ?_, ?_⟩
  ·unfold movS; exact Ev.bind e1 (Ev.pos hv (Ev.pos (by omega) (Ev.neg (by rw [Int.toNat_natCast]; exact hc) (Ev.now _))))
  ·unfold movI; exact Ev.bind e2 (Ev.pos hv (Ev.bind i2 (Ev.pos (by omega) (Ev.neg hb (Ev.now _)))))
 obtain ⟨R, hz, hS, hP, hw, hI⟩ := move_core (order := order) h1 h3 (by omega) s0 s1 hT (by omega) hc.1; refine ⟨told (n : Int) 0 R.1 R.2, hz, ?_, ?_⟩
 ·unfold movS; exact Ev.bind e1 (Ev.pos hv (Ev.pos (by omega) (Ev.pos (by rw [Int.toNat_natCast]; exact hc) (told_ev hS))))
 ·unfold movI; exact Ev.bind e2 (Ev.pos hv (Ev.bind i2 (Ev.pos (by omega) (Ev.pos (by rw [Bool.and_eq_true, decide_eq_true_eq]; exact hc) (Ev.bind (machineOf_ev (n : Int) s ac ns h) (Ev.pos ⟨rfl, hP, by show ac.length ≤ 1900000; omega, by rw [hw]; exact hT⟩ hI))))))
theorem FnExactMoveTapes (t s : Int) (ac : List Bool) (ns : List (List Int)) (l1 : List Int) (h2 : ac.length ≤ 9223372036854775807) (h3 : ns.length ≤ 9223372036854775807) (hr : ∀ x ∈ ns, x.length ≤ 9223372036854775807) (hl1 : l1.length ≤ 9223372036854775807) (_ : ∀ n ∈ l1, (Lit.int .i64 n).wf = true) : ∃ k, laws_FnExactMoveTapes.f k t s ac ns l1 = some true := by
 apply Ev.rounds; unfold laws_FnExactMoveTapes.f; by_cases hlen : 1048576 < l1.length
 ·exact Ev.pos hlen (Ev.const rfl)
 refine Ev.neg hlen ?_; obtain ⟨n, e1, e2, e3⟩ := szRelation_ev t s ac ns 1048576 (by omega) h2 h3 hr; refine Ev.bind e1 ?_; by_cases hn : n < 0
 ·exact Ev.pos hn (Ev.const rfl)
 refine Ev.neg hn ?_; have hz := e3 (by omega); obtain ⟨⟨r1, r2, r3, r4, r5⟩, hrz, hS, hI⟩ := moveTapes_both (t := t) (s := s) (order := l1) hz (by omega); simp only at hrz; have j2 := sum_small hrz; have j4 := hrz.1; have k1 := sum_small hz; have k3 := hz.1; refine Ev.guard (toRelation_ev t s ac ns hz) ?_; refine Ev.guard (toInt64S_ev l1 (by omega)) ?_; refine Ev.bind hS ?_; refine Ev.guard hI ?_; refine Ev.guard (eqRelation_ev r1 r2 r3 r4 hrz) ?_; refine Ev.guard (eqRelation_ev t s ac ns hz) ?_; refine Ev.guard (eqInt64S_ev l1 (by omega)) ?_; refine Ev.bind (markBool_ev ac 1 (by omega) (by omega)) ?_; refine Ev.bind (markInts_ev ns (1 + ac.length) (by omega) (by have := hz.2.1; omega) (fun x hx => by have := hz.2.2 x hx; omega)) ?_; refine Ev.neg (by omega) ?_; refine Ev.bind (markInt_ev l1 (1 + ac.length + sumL ns) (by omega) (by omega)) ?_; refine Ev.neg (by omega) ?_; refine Ev.bind (markBool_ev r3 1 (by omega) (by omega)) ?_; refine Ev.bind (markInts_ev r4 (1 + r3.length) (by omega) (by have := hrz.2.1; omega) (fun x hx => by have := hrz.2.2 x hx; omega)) ?_; refine Ev.neg (by omega) ?_; exact Ev.guard (heldRel_ev r1 r2 r3 r4 hrz 1 (by omega)) (Ev.now _)
end Go.Proofs.YtocfcpicleomcaaDoor.Pure
