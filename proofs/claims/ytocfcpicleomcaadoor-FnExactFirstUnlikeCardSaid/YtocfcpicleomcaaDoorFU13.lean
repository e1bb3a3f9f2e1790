import Derived.Test.YtocfcpicleomcaaDoorFU12
import Derived.Test.YtocfcpicleomcaaDoorFU5
import Derived.Test.YtocfcpicleomcaaDoorFU2
namespace Go.Proofs.YtocfcpicleomcaaDoor.X
set_option maxHeartbeats 16000000
set_option maxRecDepth 100000
open Go.RowKit Go.Proofs.YtocfcpicleomcaaDoorW.PrintWords Go.Proofs.YtocfcpicleomcaaDoorW.PrintLast Go.Proofs.YtocfcpicleomcaaDoorW.PrintMore
set_option linter.unusedVariables false
set_option linter.unusedSimpArgs false
section
variable {W n m : Nat} {ac : List Bool} {ns : List (List Int)} {cl : List Int}
/-- The numbers of the classes that were met. -/
structure NuOK (n m : Nat) (cl : List Int) (nu l : List Int) : Prop where
 len : nu.length = m
 rng : ∀ s ∈ l, 0 ≤ s ∧ s < (n : Int)
 nod : (l.map (rd cl)).Nodup
 num : ∀ v : Int, 0 ≤ v → v < (m : Int) → (rd nu v < 0 ∧ ∀ s ∈ l, rd cl s ≠ v) ∨ ∃ (i : Nat) (s : Int), rd nu v = (i : Int) ∧ l[i]? = some s ∧ rd cl s = v
theorem jr0 {l : List Int} {i j x : Int} (h0 : 0 ≤ i) (h1 : 0 ≤ j) (h : i ≠ j) : rd (l.set i.toNat x) j = rd l j := by
 unfold rd; rw [List.getD_eq_getElem?_getD, List.getD_eq_getElem?_getD, List.getElem?_set, if_neg (by omega)]
theorem NuOK.push {nu l : List Int} (h : NuOK n m cl nu l) {t : Int} (t0 : 0 ≤ t) (t1 : t < (n : Int)) (c0 : 0 ≤ rd cl t) (c1 : rd cl t < (m : Int)) (hx : rd nu (rd cl t) < 0) : NuOK n m cl (nu.set (rd cl t).toNat (l.length : Int)) (l ++ [t]) := by
 have hnew : ∀ s ∈ l, rd cl s ≠ rd cl t := by
  rcases h.num _ c0 c1 with ⟨_, h2⟩ | ⟨i, s, h2, _⟩
  ·exact h2
  ·omega
 refine ⟨by simp [h.len], ?_, ?_, ?_⟩
 ·intro s hs
  rcases List.mem_append.1 hs with hs | hs
  ·exact h.rng s hs
  ·simp at hs; subst hs; exact ⟨t0, t1⟩
 ·rw [List.map_append]; refine List.nodup_append.2 ⟨h.nod, by simp, fun a ha b hb => ?_⟩; simp at hb; subst hb; obtain ⟨s, hs, rfl⟩ := List.mem_map.1 ha; exact hnew s hs
 ·intro v v0 v1; by_cases e : rd cl t = v
  ·subst e; right; exact ⟨l.length, t, qw0 c0 (by rw [h.len]; exact c1), by simp, rfl⟩
  ·rw [jr0 c0 v0 e]
   rcases h.num v v0 v1 with ⟨h2, h3⟩ | ⟨i, s, h2, h3, h4⟩
   ·left; refine ⟨h2, fun s hs => ?_⟩
    rcases List.mem_append.1 hs with hs | hs
    ·exact h3 s hs
    ·simp at hs; subst hs; exact e
   ·right; exact ⟨i, s, h2, kd0 h3, h4⟩
open Classical in
theorem jf3 (hE : js1 W n ac ns (rd cl)) (hcl : cl.length = n) (hcm : ∀ i, 0 ≤ i → i < (n : Int) → 0 ≤ rd cl i ∧ rd cl i < (m : Int)) {nx : Int → Option (List Int → Bool)} :
  ∀ (ts : List Int) (c : Int) (nu l row : List Int) (L1 : List (List Int → Bool)) (row1 : List Int), (∀ t ∈ ts, 0 ≤ t ∧ t < (n : Int)) → (∀ j : Nat, ∀ t, ts[j]? = some t → nx (c + j) = some (lng W ac ns t)) → NuOK n m cl nu l →
   xv0 (fun _ => true) nx ts.length c (l.map (lng W ac ns)) row = some (L1, row1) → ∃ nu1 l1, qs2 cl ts nu l row = some (nu1, l1, row1) ∧ L1 = l1.map (lng W ac ns) ∧ NuOK n m cl nu1 l1 := by
 intro ts
 induction ts with
 | nil =>
  intro c nu l row L1 row1 _ _ hN h; simp only [List.length_nil, xv0, Option.some.injEq, Prod.mk.injEq] at h; obtain ⟨rfl, rfl⟩ := h; exact ⟨nu, l, rfl, rfl, hN⟩
 | cons t ts ih =>
  intro c nu l row L1 row1 ht hnx hN h; obtain ⟨t0, t1⟩ := ht t (by simp); obtain ⟨c0, c1⟩ := hcm t t0 t1; have hn0 := hnx 0 t (by simp); rw [show c + ((0 : Nat) : Int) = c by omega] at hn0; simp only [List.length_cons, xv0, hn0, Option.bind_some, if_true] at h
  have hnx' : ∀ j : Nat, ∀ t', ts[j]? = some t' → nx (c + 1 + j) = some (lng W ac ns t') := by
   intro j t' hj; have := hnx (j + 1) t' (by simpa using hj); rw [show c + 1 + (j : Int) = c + ((j + 1 : Nat) : Int) by omega]; exact this
  rw [qs2, qt0 t0 (by omega)]; simp only [Option.bind_some]; rw [show rdOf 0 cl t = rd cl t from rfl, qt0 c0 (by rw [hN.len]; exact c1)]; simp only [Option.bind_some]; rw [show rdOf 0 nu (rd cl t) = rd nu (rd cl t) from rfl]
  rcases hN.num _ c0 c1 with ⟨h2, h3⟩ | ⟨i, s, h2, h3, h4⟩
  ·rw [if_pos h2]
   have hmem : lng W ac ns t ∉ l.map (lng W ac ns) := by
    intro hm; obtain ⟨s, hs, he⟩ := List.mem_map.1 hm; obtain ⟨s0, s1⟩ := hN.rng s hs; exact h3 s hs ((hE s t s0 s1 t0 t1).2 he)
   rw [if_neg hmem, List.length_map] at h
   split at h
   ·next hlt =>
    rw [if_pos hlt]; have hN2 := NuOK.push hN t0 t1 c0 c1 h2; exact ih (c + 1) _ (l ++ [t]) _ L1 row1 (fun t' ht' => ht t' (by simp [ht'])) hnx' hN2 (by rw [List.map_append]; exact h)
   ·cases h
  ·rw [if_neg (by omega)]; obtain ⟨s0, s1⟩ := hN.rng s (List.mem_of_getElem? h3); have hls : lng W ac ns s = lng W ac ns t := (hE s t s0 s1 t0 t1).1 h4; have hi := (List.getElem?_eq_some_iff.1 h3).1; (have hmem : lng W ac ns t ∈ l.map (lng W ac ns) := by rw [← hls]; exact List.mem_map_of_mem (List.mem_of_getElem? h3)); rw [if_pos hmem] at h
   have hnodL : (l.map (lng W ac ns)).Nodup := by
    have := hN.nod
    rw [List.Nodup, List.pairwise_map] at this ⊢
    refine List.Pairwise.imp_of_mem ?_ this; intro a b ha hb hab e; obtain ⟨a0, a1⟩ := hN.rng a ha; obtain ⟨b0, b1⟩ := hN.rng b hb; exact hab ((hE a b a0 a1 b0 b1).2 e)
   have hix : (l.map (lng W ac ns)).idxOf (lng W ac ns t) = i := by
    have hi2 : i < (l.map (lng W ac ns)).length := by simpa using hi
    have hget : (l.map (lng W ac ns))[i] = lng W ac ns t := by
     rw [List.getElem_map, ← hls]
     congr 1
     exact (List.getElem?_eq_some_iff.1 h3).2
    rw [← hget, hnodL.idxOf_getElem]
   rw [hix] at h; rw [h2]; exact ih (c + 1) nu l _ L1 row1 (fun t' ht' => ht t' (by simp [ht'])) hnx' hN h
open Classical in
theorem xn3 (hT : yp0 W n ns) (hn : ac.length = n) (hE : js1 W n ac ns (rd cl)) (hcl : cl.length = n) (hcm : ∀ i, 0 ≤ i → i < (n : Int) → 0 ≤ rd cl i ∧ rd cl i < (m : Int)) :
  ∀ (f : Nat) (nu l : List Int) (bs : List Bool) (rs : List (List Int)) (r : List Bool × List (List Int)), NuOK n m cl nu l → xy0 (fun _ => true) (fun L => some (L [])) (fun L c => some fun w => L (c :: w)) W f (l.map (lng W ac ns)) bs rs = some r → xy1 cl ac ns f nu l bs rs = some r := by
 intro f
 induction f with
 | zero => intro nu l bs rs r _ h; simp [xy0] at h
 | succ f ih =>
  intro nu l bs rs r hN h; simp only [xy0] at h; rw [List.getElem?_map] at h; rw [xy1]
  cases e : l[bs.length]? with
  | none => rw [e] at h; simpa using h
  | some s =>
   rw [e] at h
   simp only [Option.map_some, Option.bind_some] at h ⊢
   obtain ⟨s0, s1⟩ := hN.rng s (List.mem_of_getElem? e); rw [qt0 s0 (by rw [hT.1]; exact s1)]; simp only [Option.bind_some]; rw [qt0 s0 (by omega)]; simp only [Option.bind_some]; obtain ⟨⟨L1, row1⟩, hp, h⟩ := oB h; have hrow := hT.row s0 s1; obtain ⟨hrl, hrr⟩ := hT.2 _ hrow
   obtain ⟨nu1, l1, h1, rfl, hN1⟩ := jf3 (m := m) (nx := fun c => some fun w => lng W ac ns s (c :: w)) hE hcl hcm (rdOf [] ns s) 0 nu l [] L1 row1 (fun t ht => hrr t ht) (fun j t hj => by
    have hjl := (List.getElem?_eq_some_iff.1 hj).1
    have e2 : stp ns s (j : Int) = t := by
     have : (ns.getD s.toNat [])[j]? = some t := hj; simp only [stp, rd, Int.toNat_natCast]; rw [List.getD_eq_getElem?_getD (l := ns.getD s.toNat []), this]; rfl
    rw [show (0 : Int) + (j : Int) = (j : Int) by omega]; rw [← e2]
    have hjW : (j : Int) < (W : Int) := by
     have : (rdOf [] ns s).length = W := hrl; omega
    show some (fun w => lng W ac ns s ((j : Int) :: w)) = some (lng W ac ns (stp ns s (j : Int)))
    congr 1
    funext w
    simp [lng, hjW]) hN (by rw [show (rdOf [] ns s).length = W from hrl]; exact hp)
   rw [h1]; simp only [Option.bind_some]; exact ih nu1 l1 _ _ r hN1 h
/-- .. as the tidy table of the first state's language. -/
theorem jh3 (hT : yp0 W n ns) (hn : ac.length = n) (h1 : n ≤ 1900000) (h0 : 0 < n) (hE : js1 W n ac ns (rd cl)) (hcl : cl.length = n) (hcm : ∀ i, 0 ≤ i → i < (n : Int) → 0 ≤ rd cl i ∧ rd cl i < (m : Int)) {f : Nat} (hf : n + 2 ≤ f) :
  ∃ r, xy1 cl ac ns f ((List.replicate m (-1)).set (rd cl 0).toNat 0) [0] [] [] = some r ∧ kt1 W f (lng W ac ns 0) = some r := by
 classical
 have total : ∃ r, xy0 (fun _ => true) (fun L => some (L [])) (fun (L : List Int → Bool) c => some fun w => L (c :: w)) W f [lng W ac ns 0] [] [] = some r := by
  have hUm : ∀ q, 0 ≤ q → q < (n : Int) → lng W ac ns q ∈ (List.range n).map (fun q : Nat => lng W ac ns (q : Int)) := fun q q0 q1 => List.mem_map.2 ⟨q.toNat, List.mem_range.2 (by omega), by rw [show ((q.toNat : Nat) : Int) = q by omega]⟩; refine ya1 (U := (List.range n).map (fun q : Nat => lng W ac ns (q : Int))) (by simpa using h1) (fun k c hk c0 c1 => ?_) (fun k hk => ⟨_, rfl⟩) f _ [] [] (by simp) (by intro k hk; simp at hk; subst hk; exact hUm 0 (by omega) (by omega)) (by simp) (by simp; omega); obtain ⟨q, hq, rfl⟩ := List.mem_map.1 hk; have hq' := List.mem_range.1 hq; have hs := hT.stpd (q := (q : Int)) (by omega) (by omega) c0 c1; refine ⟨_, rfl, rfl, ?_⟩
  have e : (fun w => lng W ac ns (q : Int) (c :: w)) = lng W ac ns (stp ns (q : Int) c) := by
   funext w
   simp [lng, c0, c1]
  rw [e]; exact hUm _ hs.1 hs.2
 obtain ⟨r, hr⟩ := total; have hc0 := hcm 0 (by omega) (by omega); refine ⟨r, xn3 hT hn hE hcl hcm f _ [0] [] [] r ?_ (by simpa using hr), hr⟩; refine ⟨by simp, by simp; omega, by simp, fun v v0 v1 => ?_⟩; by_cases e : rd cl 0 = v
 ·right; exact ⟨0, 0, by rw [← e]; exact qw0 hc0.1 (by simp; omega), by simp, e⟩
 ·left; rw [jr0 hc0.1 v0 e]; refine ⟨?_, by simpa using e⟩
  have : rd (List.replicate m (-1)) v = -1 := by
   (have hv : v.toNat < m := by omega); simp [rd, List.getD_eq_getElem?_getD, hv]
  omega
end
section
variable {W n : Nat} {ac : List Bool} {ns : List (List Int)} {cl : List Int} {t s0 : Int}
def xe1 (W : Nat) (ns : List (List Int)) (g : Int → Int) (a b : Int) : Prop := g a = g b ∧ ∀ c, 0 ≤ c → c < (W : Int) → g (stp ns a c) = g (stp ns b c)
theorem xe1.symm {g : Int → Int} {a b : Int} (h : xe1 W ns g a b) : xe1 W ns g b a := ⟨h.1.symm, fun c c0 c1 => (h.2 c c0 c1).symm⟩
theorem xe1.trans {g : Int → Int} {a b c : Int} (h : xe1 W ns g a b) (h2 : xe1 W ns g b c) : xe1 W ns g a c := ⟨h.1.trans h2.1, fun d c0 c1 => (h.2 d c0 c1).trans (h2.2 d c0 c1)⟩
theorem wrap_small {x : Int} (h0 : 0 ≤ x) (h1 : x ≤ 1000000000) : wrap64 (x + 1) = x + 1 := by unfold wrap64; omega
theorem zf4 (hT : yp0 W n ns) (hcl : cl.length = n) (hW : W ≤ 1000) {a b : Int} (a0 : 0 ≤ a) (a1 : a < (n : Int)) (b0 : 0 ≤ b) (b1 : b < (n : Int)) :
  ∀ (d k : Nat) (c : Int), 0 ≤ c → c + d = (W : Int) → d < k → ∃ B, xe0.l0 k cl a b c t s0 ac ns = some (B, t, s0) ∧ (B = true ↔ ∀ c', c ≤ c' → c' < (W : Int) → rd cl (stp ns a c') = rd cl (stp ns b c')) := by
 have hra := hT.2 _ (hT.row a0 a1); have hrb := hT.2 _ (hT.row b0 b1); (have la : ((rd_L2 ns a).length : Int) = (W : Int) := by rw [show rd_L2 ns a = ns.getD a.toNat [] from rfl, hra.1]); (have lb : ((rd_L2 ns b).length : Int) = (W : Int) := by rw [show rd_L2 ns b = ns.getD b.toNat [] from rfl, hrb.1]); intro d
 induction d with
 | zero =>
  intro k c c0 hc hk; obtain ⟨k, rfl⟩ : ∃ m, k = m + 1 := ⟨k - 1, by omega⟩; refine ⟨true, ?_, by simp; intro c' h1 h2; omega⟩; simp only [xe0.l0]; rw [if_pos a0, if_pos (by rw [hT.1]; exact a1), if_neg (by rw [la]; omega)]
 | succ d ih =>
  intro k c c0 hc hk; obtain ⟨k, rfl⟩ : ∃ m, k = m + 1 := ⟨k - 1, by omega⟩; have sa := hT.stpd a0 a1 c0 (by omega); have sb := hT.stpd b0 b1 c0 (by omega); simp only [xe0.l0]; rw [show rd (rd_L2 ns a) c = stp ns a c from rfl, show rd (rd_L2 ns b) c = stp ns b c from rfl, if_pos a0, if_pos (by rw [hT.1]; exact a1), if_pos (by rw [la]; omega), if_pos c0, if_pos sa.1, if_pos (by rw [hcl]; exact sa.2), if_pos b0, if_pos (by rw [hT.1]; exact b1), if_pos (by rw [lb]; omega), if_pos sb.1, if_pos (by rw [hcl]; exact sb.2)]; by_cases e : rd cl (stp ns a c) = rd cl (stp ns b c)
  ·rw [if_pos e, wrap_small c0 (by omega)]; obtain ⟨B, h, hB⟩ := ih k (c + 1) (by omega) (by omega) (by omega); refine ⟨B, h, hB.trans ⟨fun h c' h1 h2 => ?_, fun h c' h1 h2 => h c' (by omega) h2⟩⟩; by_cases e2 : c' = c
   ·rw [e2]; exact e
   ·exact h c' (by omega) h2
  ·rw [if_neg e]; exact ⟨false, rfl, by simp; exact ⟨c, by omega, by omega, e⟩⟩
/-- The search among the first ones. -/
theorem yx2 (hT : yp0 W n ns) (hcl : cl.length = n) (hW : W ≤ 1000) (hn : n ≤ 1000000) {s : Int} (q0 : 0 ≤ s) (q1 : s < (n : Int)) {x7 x8 : List Int} (h7 : x7.length = n) (hneg : rd x7 s < 0) (h8 : ∀ f ∈ x8, 0 ≤ f ∧ f < (n : Int)) (h8l : x8.length ≤ n) {r : List Int × Int × Int × Int} {K : Nat}
  (hnone : (∀ f ∈ x8, ¬ xe1 W ns (rd cl) f s) → ∀ k, K ≤ k → zi0.l0 k cl (n : Int) (x7.set s.toNat (x8.length : Int)) (x8 ++ [s]) (s + 1) t s0 ac ns = some r)
  (hsome : ∀ (i : Nat) (f : Int), x8[i]? = some f → xe1 W ns (rd cl) f s → ∀ k, K ≤ k → zi0.l0 k cl (n : Int) (x7.set s.toNat (i : Int)) x8 (s + 1) t s0 ac ns = some r) :
  ∀ (d k j : Nat), j + d = x8.length → (∀ (i : Nat) f, i < j → x8[i]? = some f → ¬ xe1 W ns (rd cl) f s) → K + 2 * d + W + 10 ≤ k → zi0.l1 k cl (n : Int) x7 x8 s (j : Int) t s0 ac ns = some r := by
 intro d
 induction d with
 | zero =>
  intro k j hj hno hk; obtain ⟨k, rfl⟩ : ∃ m, k = m + 2 := ⟨k - 2, by omega⟩; rw [zi0.l1, if_neg (by omega), zi0.j2, if_neg (by simp), if_pos q0, if_pos (by rw [h7]; exact q1), if_pos hneg, if_pos (by omega), wrap_small q0 (by omega)]; refine hnone (fun f hf => ?_) k (by omega); obtain ⟨i, hi, he⟩ := List.getElem_of_mem hf; exact hno i f (by omega) (by rw [List.getElem?_eq_getElem hi, he])
 | succ d ih =>
  intro k j hj hno hk; obtain ⟨k, rfl⟩ : ∃ m, k = m + 2 := ⟨k - 2, by omega⟩; (have hj2 : j < x8.length := by omega); have hget : x8[j]? = some (rd x8 (j : Int)) := yy3 (i := (j : Int)) (by omega) (by omega); have hf := h8 _ (List.mem_of_getElem? hget); rw [zi0.l1, if_pos (by omega), if_pos q0, if_pos (by rw [h7]; exact q1), zi0.j2, if_pos (by simpa using hneg), if_pos (by omega), if_pos (by omega), if_pos hf.1, if_pos (by rw [hcl]; exact hf.2), if_pos q0, if_pos (by rw [hcl]; exact q1)]
  have next : ¬ xe1 W ns (rd cl) (rd x8 (j : Int)) s → zi0.l1 k cl (n : Int) x7 x8 s (wrap64 ((j : Int) + 1)) t s0 ac ns = some r := by
   intro hns; rw [wrap_small (by omega) (by omega)]
   exact ih k (j + 1) (by omega) (fun i f hi hif => by
    by_cases e : i = j
    ·subst e; rw [hget] at hif; obtain rfl := Option.some.inj hif; exact hns
    ·exact hno i f (by omega) hif) (by omega)
  by_cases e : rd cl (rd x8 (j : Int)) = rd cl s
  ·rw [if_pos e]; obtain ⟨B, hB, hBi⟩ := zf4 (t := t) (s0 := s0) (ac := ac) hT hcl hW hf.1 hf.2 q0 q1 W k 0 (by omega) (by omega) (by omega); rw [xe0.f, hB]; simp only [Option.bind_some]; by_cases hBt : B = true
   ·have hs : xe1 W ns (rd cl) (rd x8 (j : Int)) s := ⟨e, fun c c0 c1 => (hBi.1 hBt) c c0 c1⟩; rw [if_pos hBt, if_pos (by rw [h7]; exact q1), wrap_small (by omega) (by omega)]
    -- the next round ends the search, since the class is there now
    obtain ⟨k, rfl⟩ : ∃ m, k = m + 2 := ⟨k - 2, by omega⟩; have hrd : rd (x7.set s.toNat (j : Int)) s = (j : Int) := qw0 q0 (by rw [h7]; exact q1)
    have key : zi0.j2 (k + 1) cl (n : Int) (x7.set s.toNat (j : Int)) x8 s ((j : Int) + 1) false t s0 ac ns = some r := by
     rw [zi0.j2, if_neg (by simp), if_pos q0, if_pos (by rw [List.length_set, h7]; exact q1), if_neg (by rw [hrd]; omega), wrap_small q0 (by omega)]; exact hsome j _ hget hs k (by omega)
    rw [zi0.l1]; by_cases e3 : (j : Int) + 1 < (x8.length : Int)
    ·rw [if_pos e3, if_pos q0, if_pos (by rw [List.length_set, h7]; exact q1), hrd, show decide ((j : Int) < 0) = false by simp]; exact key
    ·rw [if_neg e3]; exact key
   ·rw [if_neg hBt]; exact next (fun hs => hBt (hBi.2 (fun c' h1 h2 => hs.2 c' h1 h2)))
  ·rw [if_neg e]; exact next (fun hs => e hs.1)
/-- What holds of the classes found so far. -/
structure xj3 (W n : Nat) (ns : List (List Int)) (g : Int → Int) (s : Nat) (x7 x8 : List Int) : Prop where
 l7 : x7.length = n
 r8 : ∀ f ∈ x8, 0 ≤ f ∧ f < (s : Int)
 l8 : x8.length ≤ s
 apart : ∀ (i j : Nat) a b, x8[i]? = some a → x8[j]? = some b → xe1 W ns g a b → i = j
 cls : ∀ i : Int, 0 ≤ i → i < (s : Int) → ∃ (j : Nat) (f : Int), rd x7 i = (j : Int) ∧ x8[j]? = some f ∧ xe1 W ns g f i
 own : ∀ (j : Nat) f, x8[j]? = some f → rd x7 f = (j : Int)
theorem xa4 (hT : yp0 W n ns) (hcl : cl.length = n) (hW : W ≤ 1000) (hn : n ≤ 1000000) :
  ∀ (d : Nat) (s : Nat) (x7 x8 : List Int), s + d = n → xj3 W n ns (rd cl) s x7 x8 → ∃ (l : List Int) (x : List Int), xj3 W n ns (rd cl) n l x ∧ ∀ k, d * (2 * n + W + 20) + 1 ≤ k → zi0.l0 k cl (n : Int) x7 x8 (s : Int) t s0 ac ns = some (l, (x.length : Int), t, s0) := by
 intro d
 induction d with
 | zero =>
  intro s x7 x8 hs hF; (have : s = n := by omega); subst this; refine ⟨x7, x8, hF, fun k hk => ?_⟩; obtain ⟨k, rfl⟩ : ∃ m, k = m + 1 := ⟨k - 1, by omega⟩; rw [zi0.l0, if_neg (by omega)]
 | succ d ih =>
  intro s x7 x8 hs hF; (have q1 : (s : Int) < (n : Int) := by omega); (have hl7 : (x7.set (s : Int).toNat (-1)).length = n := by rw [List.length_set]; exact hF.l7); (have hneg : rd (x7.set (s : Int).toNat (-1)) (s : Int) < 0 := by rw [qw0 (by omega) (by rw [hF.l7]; exact q1)]; omega); (have hother : ∀ (v i : Int), 0 ≤ i → i ≠ (s : Int) → rd (((x7.set (s : Int).toNat (-1))).set (s : Int).toNat v) i = rd x7 i := fun v i h0 hi => by rw [jr0 (by omega) h0 (fun e => hi e.symm), jr0 (by omega) h0 (fun e => hi e.symm)]); have hself : ∀ v : Int, rd (((x7.set (s : Int).toNat (-1))).set (s : Int).toNat v) (s : Int) = v := fun v => qw0 (by omega) (by rw [hl7]; exact q1); by_cases hex : ∃ (i : Nat) (f : Int), x8[i]? = some f ∧ xe1 W ns (rd cl) f (s : Int)
  ·obtain ⟨i, f, hif, hsame⟩ := hex
   have hF2 : xj3 W n ns (rd cl) (s + 1) ((x7.set (s : Int).toNat (-1)).set (s : Int).toNat (i : Int)) x8 := by
    refine ⟨by rw [List.length_set]; exact hl7, fun f hf => ?_, by have := hF.l8; omega, hF.apart, ?_, ?_⟩
    ·have := hF.r8 f hf; omega
    ·intro i' h0 h1; by_cases e : i' = (s : Int)
     ·rw [e]; exact ⟨i, f, hself _, hif, hsame⟩
     ·rw [hother _ i' h0 e]; exact hF.cls i' h0 (by omega)
    ·intro j f' hj; have := hF.r8 f' (List.mem_of_getElem? hj); rw [hother _ f' this.1 (by omega)]; exact hF.own j f' hj
   obtain ⟨l, x, hFn, hr⟩ := ih (s + 1) _ _ (by omega) hF2; refine ⟨l, x, hFn, fun k hk => ?_⟩; rw [Nat.add_mul, Nat.one_mul] at hk; obtain ⟨k, rfl⟩ : ∃ m, k = m + 1 := ⟨k - 1, by omega⟩; rw [zi0.l0, if_pos q1, if_pos (by omega), if_pos (by rw [hF.l7]; exact q1)]; (have h8l : x8.length ≤ n := by have := hF.l8; omega); refine yx2 (K := d * (2 * n + W + 20) + 1) (x8 := x8) hT hcl hW hn (by omega) q1 hl7 hneg (fun f hf => by have := hF.r8 f hf; omega) h8l (fun hno => absurd hsame (hno f (List.mem_of_getElem? hif))) (fun i2 f2 hif2 hs2 k' hk' => ?_) x8.length k 0 (by omega) (fun _ _ h => by omega) (by omega); have : i2 = i := hF.apart i2 i f2 f hif2 hif (hs2.trans hsame.symm); subst this; rw [show (s : Int) + 1 = ((s + 1 : Nat) : Int) by omega]; exact hr k' hk'
  ·have hno : ∀ f ∈ x8, ¬ xe1 W ns (rd cl) f (s : Int) := by
    intro f hf hsame; obtain ⟨i, hi, he⟩ := List.getElem_of_mem hf; exact hex ⟨i, f, by rw [List.getElem?_eq_getElem hi, he], hsame⟩
   have hF2 : xj3 W n ns (rd cl) (s + 1) ((x7.set (s : Int).toNat (-1)).set (s : Int).toNat (x8.length : Int)) (x8 ++ [(s : Int)]) := by
    have hlast : ∀ (j : Nat) (a : Int), (x8 ++ [(s : Int)])[j]? = some a → (x8[j]? = some a ∧ j < x8.length) ∨ (j = x8.length ∧ a = (s : Int)) := by
     intro j a hj; by_cases e : j < x8.length
     ·rw [List.getElem?_append_left e] at hj; exact .inl ⟨hj, e⟩
     ·have := (List.getElem?_eq_some_iff.1 hj).1; simp at this; (have e2 : j = x8.length := by omega); subst e2; rw [List.getElem?_append_right (Nat.le_refl _)] at hj; simp at hj; exact .inr ⟨rfl, hj.symm⟩
    refine ⟨by rw [List.length_set]; exact hl7, ?_, by have := hF.l8; simp; omega, ?_, ?_, ?_⟩
    ·intro f hf
     rcases List.mem_append.1 hf with hf | hf
     ·have := hF.r8 f hf; omega
     ·simp at hf; omega
    ·intro i j a b hi hj hab
     rcases hlast i a hi with ⟨h1, h2⟩ | ⟨h1, h2⟩ <;> rcases hlast j b hj with ⟨h3, h4⟩ | ⟨h3, h4⟩
     ·exact hF.apart i j a b h1 h3 hab
     ·subst h4; exact absurd hab (hno a (List.mem_of_getElem? h1))
     ·subst h2; exact absurd hab.symm (hno b (List.mem_of_getElem? h3))
     ·omega
    ·intro i' h0 h1; by_cases e : i' = (s : Int)
     ·rw [e]; exact ⟨x8.length, (s : Int), hself _, by simp, rfl, fun c _ _ => rfl⟩
     ·rw [hother _ i' h0 e]; obtain ⟨j, f, h2, h3, h4⟩ := hF.cls i' h0 (by omega); exact ⟨j, f, h2, kd0 h3, h4⟩
    ·intro j f' hj
     rcases hlast j f' hj with ⟨h1, h2⟩ | ⟨h1, h2⟩
     ·have := hF.r8 f' (List.mem_of_getElem? h1); rw [hother _ f' this.1 (by omega)]; exact hF.own j f' h1
     ·rw [h2, h1]; exact hself _
   obtain ⟨l, x, hFn, hr⟩ := ih (s + 1) _ _ (by omega) hF2; refine ⟨l, x, hFn, fun k hk => ?_⟩; rw [Nat.add_mul, Nat.one_mul] at hk; obtain ⟨k, rfl⟩ : ∃ m, k = m + 1 := ⟨k - 1, by omega⟩; rw [zi0.l0, if_pos q1, if_pos (by omega), if_pos (by rw [hF.l7]; exact q1)]; (have h8l : x8.length ≤ n := by have := hF.l8; omega); refine yx2 (K := d * (2 * n + W + 20) + 1) (x8 := x8) hT hcl hW hn (by omega) q1 hl7 hneg (fun f hf => by have := hF.r8 f hf; omega) h8l (fun _ k' hk' => ?_) (fun i2 f2 hif2 hs2 k' hk' => absurd hs2 (hno f2 (List.mem_of_getElem? hif2))) x8.length k 0 (by omega) (fun _ _ h => by omega) (by omega); rw [show (s : Int) + 1 = ((s + 1 : Nat) : Int) by omega]; exact hr k' hk'
theorem ku3 (hT : yp0 W n ns) (hcl : cl.length = n) (hW : W ≤ 1000) (hn : n ≤ 1000000) : ∃ (l : List Int) (m : Nat), l.length = n ∧ m ≤ n ∧ kg1 W n ns (rd cl) (rd l) m ∧ ∀ k, n * (2 * n + W + 20) + 1 ≤ k → zi0.f k t s0 ac ns cl = some (l, (m : Int), t, s0) := by
 obtain ⟨l, x, hF, hr⟩ := xa4 (t := t) (s0 := s0) (ac := ac) hT hcl hW hn n 0 (List.replicate n 0) [] (by omega) ⟨by simp, by simp, by simp, by simp, fun i h0 h1 => by omega, by simp⟩; refine ⟨l, x.length, hF.l7, hF.l8, ⟨?_, ?_, ?_⟩, fun k hk => ?_⟩
 ·intro i j i0 i1 j0 j1; obtain ⟨a, fa, h1, h2, h3⟩ := hF.cls i i0 i1; obtain ⟨b, fb, h4, h5, h6⟩ := hF.cls j j0 j1; rw [h1, h4]; constructor
  ·intro e; (have : a = b := by omega); subst this; rw [h2] at h5; obtain rfl := Option.some.inj h5; exact h3.symm.trans h6
  ·intro e; have := hF.apart a b fa fb h2 h5 ((h3.trans e).trans h6.symm); rw [this]
 ·intro i i0 i1; obtain ⟨a, fa, h1, h2, h3⟩ := hF.cls i i0 i1; have := (List.getElem?_eq_some_iff.1 h2).1; rw [h1]; omega
 ·intro k hk; have h8 := hF.r8 x[k] (List.getElem_mem hk); exact ⟨x[k], h8.1, h8.2, hF.own k x[k] (List.getElem?_eq_getElem hk)⟩
 ·unfold zi0.f; rw [if_pos (by omega), if_pos (by omega), hcl]; simp only [Int.toNat_natCast]; exact hr k hk
end
section
variable {W n : Nat} {ac : List Bool} {ns : List (List Int)} {t : Int}
theorem kt2 (hT : yp0 W n ns) (hW : W ≤ 1000) (hn : n ≤ 1000000) {k : Nat} (hk : n * (2 * n + W + 20) + 1 ≤ k) : ∀ (f count : Nat) (cl : List Int), cl.length = n → yv1 W n ac ns (rd cl) → count ≤ n → (∀ k : Nat, k < count → ∃ i, 0 ≤ i ∧ i < (n : Int) ∧ rd cl i = (k : Int)) → n + 1 ≤ f + count →
  ∃ (g : List Int) (m : Nat), jf1 k t ac ns f (count : Int) cl = some (g, (m : Int)) ∧ g.length = n ∧ m ≤ n ∧ js1 W n ac ns (rd g) ∧ ∀ i, 0 ≤ i → i < (n : Int) → 0 ≤ rd g i ∧ rd g i < (m : Int) := by
 intro f
 induction f with
 | zero => intro count cl _ _ h1 _ h2; omega
 | succ f ih =>
  intro count cl hcl hC hc hm hf; obtain ⟨l, m, hl, hmn, hfin, hr⟩ := ku3 (t := t) (s0 := 0) (ac := ac) hT hcl hW hn; rw [jf1, hr k hk]; simp only [Option.bind_some, and_self, if_true]; by_cases e : m = count
  ·subst e; rw [if_pos rfl]; exact ⟨l, m, rfl, hl, hmn, hC.eq hT hfin hm, hfin.lo⟩
  ·rw [if_neg (by omega)]; have := hfin.le hm; exact ih m l hl (hC.next hT hfin) hmn hfin.met (by omega)
/-- 'l01Tidied', behind 'l01Right', makes the tidy table of the first state's language. -/
theorem ks2 (hT : yp0 W n ns) (hn : ac.length = n) (h0 : 0 < n) (hW : W ≤ 1000) (hn2 : n ≤ 1000000) {k f : Nat} (hk : n * (2 * n + W + 20) + 1 ≤ k) (hf : n + 2 ≤ f) : ∃ r, xr2 k f t ac ns = some r ∧ kt1 W f (lng W ac ns 0) = some r := by
 obtain ⟨g, m, hg, hgl, hmn, hE, hb⟩ := kt2 (ac := ac) (t := t) hT hW hn2 hk f 0 (bitL ac) (by simp [bitL, hn]) (xj2 hn) (by omega) (fun k hk => by omega) (by omega); have hb0 := hb 0 (by omega) (by omega); obtain ⟨r, hr, hd⟩ := jh3 (m := m) hT hn (by omega) h0 hE hgl hb hf; refine ⟨r, ?_, hd⟩; unfold xr2; rw [show ((0 : Nat) : Int) = 0 from rfl] at hg; rw [hg]; simp only [Option.bind_some]; rw [if_pos (by omega), qt0 (by omega) (by omega)]; simp only [Option.bind_some]; rw [show rdOf 0 g 0 = rd g 0 from rfl, if_pos hb0]
 simpa using hr
end
section
variable {W n N kd : Nat} {ac : List Bool} {ns : List (List Int)} {pads : List Int} {tapes size : Int}
/-- The numbers of the pairs that were met. -/
structure yf3 (N : Nat) (nu l : List Int) : Prop where
 len : nu.length = N
 rng : ∀ v ∈ l, 0 ≤ v ∧ v < (N : Int)
 nod : l.Nodup
 num : ∀ v : Int, 0 ≤ v → v < (N : Int) → (rd nu v < 0 ∧ v ∉ l) ∨ ∃ i : Nat, rd nu v = (i : Int) ∧ l[i]? = some v
theorem yf3.push {nu l : List Int} (h : yf3 N nu l) {v : Int} (v0 : 0 ≤ v) (v1 : v < (N : Int)) (hx : rd nu v < 0) : yf3 N (nu.set v.toNat (l.length : Int)) (l ++ [v]) := by
 have hnew : v ∉ l := by
  rcases h.num v v0 v1 with ⟨_, h2⟩ | ⟨i, h2, _⟩
  ·exact h2
  ·omega
 refine ⟨by simp [h.len], ?_, ?_, ?_⟩
 ·intro s hs
  rcases List.mem_append.1 hs with hs | hs
  ·exact h.rng s hs
  ·simp at hs; subst hs; exact ⟨v0, v1⟩
 ·exact List.nodup_append.2 ⟨h.nod, by simp, fun a ha b hb => by simp at hb; subst hb; exact fun he => hnew (he ▸ ha)⟩
 ·intro u u0 u1; by_cases e : v = u
  ·subst e; right; exact ⟨l.length, qw0 v0 (by rw [h.len]; exact v1), by simp⟩
  ·rw [jr0 v0 u0 e]
   rcases h.num u u0 u1 with ⟨h2, h3⟩ | ⟨i, h2, h3⟩
   ·left; refine ⟨h2, fun hm => ?_⟩
    rcases List.mem_append.1 hm with hm | hm
    ·exact h3 hm
    ·simp at hm; exact e hm.symm
   ·right; exact ⟨i, h2, kd0 h3⟩
def endE (pads : List Int) (p c : Int) : Int := if bits .andNot .i64 p (rd pads c) = 0 then rd pads c else -1
/-- An entry of a row: no state, or a pair that was met. -/
def ye2 (size : Int) (pads : List Int) (ns : List (List Int)) (s p : Int) (l : List Int) (c x : Int) : Prop :=
 (endE pads p c < 0 ∧ x = -1) ∨ ∃ q : Nat, x = (q : Int) ∧ 0 ≤ endE pads p c ∧ l[q]? = some (stp ns s c * size + endE pads p c)
theorem ye2.app {s p : Int} {l d : List Int} {c x : Int} (h : ye2 size pads ns s p l c x) : ye2 size pads ns s p (l ++ d) c x := by
 rcases h with h | ⟨q, h1, h2, h3⟩
 ·exact .inl h
 ·exact .inr ⟨q, h1, h2, kd0 h3⟩
structure ya2 (W n N : Nat) (size tapes : Int) (kd : Nat) (pads : List Int) : Prop where
 s1 : 1 ≤ size
 s8 : size ≤ 8
 N : (N : Int) = (n : Int) * size
 n : n ≤ 100000
 pl : pads.length = W
 pr : ∀ x ∈ pads, 0 ≤ x ∧ x < size
 en : ∀ p c, 0 ≤ p → p < size → 0 ≤ c → c < (W : Int) → ym0.f kd tapes p c = some (endE pads p c)
theorem zo2 (hs : ya2 W n N size tapes kd pads) {q e : Int} (q0 : 0 ≤ q) (q1 : q < (n : Int)) (e0 : 0 ≤ e) (e1 : e < size) : 0 ≤ q * size + e ∧ q * size + e < (N : Int) ∧ wrap64 (wrap64 (q * size) + e) = q * size + e ∧ (q * size + e) / size = q ∧ (q * size + e) % size = e := by
 have h0 : 0 ≤ q * size := Int.mul_nonneg q0 (by have := hs.s1; omega); have h1 : (q + 1) * size ≤ (n : Int) * size := Int.mul_le_mul_of_nonneg_right (by omega) (by have := hs.s1; omega); rw [Int.add_mul, Int.one_mul] at h1; have h2 : (n : Int) * size ≤ 100000 * 8 := Int.mul_le_mul (by have := hs.n; omega) hs.s8 (by have := hs.s1; omega) (by omega); have hN := hs.N; refine ⟨by omega, by omega, ?_, ?_, ?_⟩
 ·unfold wrap64; omega
 ·rw [Int.add_comm, Int.add_mul_ediv_right _ _ (by have := hs.s1; omega), Int.ediv_eq_zero_of_lt e0 e1, Int.zero_add]
 ·rw [Int.add_comm, Int.add_mul_emod_self_right, Int.emod_eq_of_lt e0 e1]
theorem qs1 (hs : ya2 W n N size tapes kd pads) {v : Int} (v0 : 0 ≤ v) (v1 : v < (N : Int)) : wrap64 (Int.tdiv v size) = v / size ∧ Int.tmod v size = v % size ∧ 0 ≤ v / size ∧ v / size < (n : Int) ∧ 0 ≤ v % size ∧ v % size < size := by
 have hsz := hs.s1; have h0 : 0 ≤ v / size := Int.ediv_nonneg v0 (by omega); have h1 : v / size < (n : Int) := Int.ediv_lt_of_lt_mul (by omega) (by rw [← hs.N]; exact v1); refine ⟨?_, Int.tmod_eq_emod_of_nonneg v0, h0, h1, Int.emod_nonneg _ (by omega), Int.emod_lt_of_pos _ (by omega)⟩; rw [Int.tdiv_eq_ediv_of_nonneg v0]; have := hs.n; unfold wrap64; omega
theorem qz3 (hs : ya2 W n N size tapes kd pads) {p c : Int} (c0 : 0 ≤ c) (c1 : c < (W : Int)) : endE pads p c = -1 ∨ (0 ≤ endE pads p c ∧ endE pads p c < size) := by
 unfold endE
 split
 ·exact .inr (qi1 hs.pr c0 (by rw [hs.pl]; exact c1))
 ·exact .inl rfl
theorem jn3 (hs : ya2 W n N size tapes kd pads) (hT : yp0 W n ns) {li : Int} (l0 : 0 ≤ li) (l1 : li < (N : Int)) :
  ∀ (m c : Nat) (nu l row : List Int), c + m = W → yf3 N nu l → ∃ nu1 d e, yk2 kd tapes size (rdOf [] ns (li / size)) li m c nu l row = some (nu1, l ++ d, row ++ e) ∧ yf3 N nu1 (l ++ d) ∧ e.length = m ∧ ∀ j : Nat, j < m → ∃ x, e[j]? = some x ∧ ye2 size pads ns (li / size) (li % size) (l ++ d) ((c + j : Nat) : Int) x := by
 obtain ⟨k1, k2, k3, k4, k5, k6⟩ := qs1 hs l0 l1; intro m
 induction m with
 | zero => intro c nu l row _ hN; exact ⟨nu, [], [], by simp [yk2], by simpa using hN, rfl, fun j hj => by omega⟩
 | succ m ih =>
  intro c nu l row hc hN; (have c1 : (c : Int) < (W : Int) := by omega); rw [yk2, k2, hs.en _ _ k5 k6 (by omega) c1]; simp only [Option.bind_some]
  rcases qz3 hs (p := li % size) (c := (c : Int)) (by omega) c1 with he | ⟨e0, e1⟩
  ·rw [if_pos (by omega)]; obtain ⟨nu1, d, e, h1, h2, h3, h4⟩ := ih (c + 1) nu l (row ++ [-1]) (by omega) hN; refine ⟨nu1, d, -1 :: e, by simpa using h1, h2, by simp [h3], fun j hj => ?_⟩
   cases j with
   | zero => exact ⟨-1, by simp, .inl ⟨by rw [Nat.add_zero]; omega, rfl⟩⟩
   | succ j =>
    obtain ⟨x, hx, hx2⟩ := h4 j (by omega); exact ⟨x, by simpa using hx, by rw [show c + (j + 1) = c + 1 + j by omega]; exact hx2⟩
  ·rw [if_neg (by omega)]; have hrow := hT.row k3 k4; rw [qt0 (by omega) (by rw [show (rdOf [] ns (li / size)).length = W from (hT.2 _ hrow).1]; exact c1)]; simp only [Option.bind_some]; have est : rdOf 0 (rdOf [] ns (li / size)) (c : Int) = stp ns (li / size) (c : Int) := rfl; rw [est]; have hst := hT.stpd k3 k4 (c := (c : Int)) (by omega) c1; obtain ⟨b1, b2, b3, b4, b5⟩ := zo2 hs hst.1 hst.2 e0 e1; rw [b3, qt0 b1 (by rw [hN.len]; exact b2)]; simp only [Option.bind_some]; rw [show rdOf 0 nu (stp ns (li / size) (c : Int) * size + endE pads (li % size) (c : Int)) = rd nu (stp ns (li / size) (c : Int) * size + endE pads (li % size) (c : Int)) from rfl]
   rcases hN.num _ b1 b2 with ⟨h2, h3⟩ | ⟨i, h2, h3⟩
   ·rw [if_pos h2]; have hlen := jy0 l ((List.range N).map (fun k : Nat => (k : Int))) hN.nod (fun v hv => by have := hN.rng v hv; exact List.mem_map.2 ⟨v.toNat, List.mem_range.2 (by omega), by omega⟩)
    have hlen2 : N ≤ 800000 := by
     have := hs.N; have h5 : (n : Int) * size ≤ 100000 * 8 := Int.mul_le_mul (by have := hs.n; omega) hs.s8 (by have := hs.s1; omega) (by omega); omega
    rw [if_pos (by simp at hlen; omega)]; obtain ⟨nu1, d, e, h5, h6, h7, h8⟩ := ih (c + 1) _ _ (row ++ [(l.length : Int)]) (by omega) (hN.push b1 b2 h2); refine ⟨nu1, _ :: d, (l.length : Int) :: e, by simpa using h5, by simpa using h6, by simp [h7], fun j hj => ?_⟩
    cases j with
    | zero => exact ⟨_, by simp, .inr ⟨l.length, rfl, by rw [Nat.add_zero]; exact e0, by simp⟩⟩
    | succ j =>
     obtain ⟨x, hx, hx2⟩ := h8 j (by omega); exact ⟨x, by simpa using hx, by rw [show c + (j + 1) = c + 1 + j by omega]; simpa using hx2⟩
   ·rw [if_neg (by omega), h2]; obtain ⟨nu1, d, e, h5, h6, h7, h8⟩ := ih (c + 1) nu l (row ++ [(i : Int)]) (by omega) hN; refine ⟨nu1, d, (i : Int) :: e, by simpa using h5, h6, by simp [h7], fun j hj => ?_⟩
    cases j with
    | zero => exact ⟨_, by simp, .inr ⟨i, rfl, by rw [Nat.add_zero]; exact e0, by rw [Nat.add_zero]; exact kd0 h3⟩⟩
    | succ j =>
     obtain ⟨x, hx, hx2⟩ := h8 j (by omega); exact ⟨x, by simpa using hx, by rw [show c + (j + 1) = c + 1 + j by omega]; exact hx2⟩
/-- The rows made so far. -/
structure RmOK (W N : Nat) (size : Int) (pads : List Int) (ac : List Bool) (ns : List (List Int)) (nu l : List Int) (bs : List Bool) (rs : List (List Int)) : Prop where
 nu : yf3 N nu l
 len : rs.length = bs.length
 le : bs.length ≤ l.length
 acc : ∀ (i : Nat) b, bs[i]? = some b → ∃ v, l[i]? = some v ∧ b = rdOf false ac (v / size)
 row : ∀ (i : Nat) row, rs[i]? = some row → row.length = W ∧ ∃ v, l[i]? = some v ∧ ∀ j : Nat, j < W → ∃ x, row[j]? = some x ∧ ye2 size pads ns (v / size) (v % size) l (j : Int) x
theorem xs3 (hs : ya2 W n N size tapes kd pads) (hT : yp0 W n ns) (hn : ac.length = n) :
  ∀ (f : Nat) (nu l : List Int) (bs : List Bool) (rs : List (List Int)), RmOK W N size pads ac ns nu l bs rs → N < f + bs.length → ∃ bsF rsF nuF lF, kz1 kd tapes size W ac ns f nu l bs rs = some (bsF, rsF, l ++ lF) ∧ RmOK W N size pads ac ns nuF (l ++ lF) bsF rsF ∧ bsF.length = (l ++ lF).length := by
 intro f
 induction f with
 | zero =>
  intro nu l bs rs hR hf; have hlen := jy0 l ((List.range N).map (fun k : Nat => (k : Int))) hR.nu.nod (fun v hv => by have := hR.nu.rng v hv; exact List.mem_map.2 ⟨v.toNat, List.mem_range.2 (by omega), by omega⟩); have := hR.le; simp at hlen; omega
 | succ f ih =>
  intro nu l bs rs hR hf; rw [kz1]
  cases e : l[bs.length]? with
  | none =>
   have := List.getElem?_eq_none_iff.1 e; have := hR.le; exact ⟨bs, rs, nu, [], by simp, by simpa using hR, by simp; omega⟩
  | some li =>
   simp only; obtain ⟨v0, v1⟩ := hR.nu.rng li (List.mem_of_getElem? e); obtain ⟨k1, k2, k3, k4, k5, k6⟩ := qs1 hs v0 v1; rw [k1, qt0 k3 (by rw [hT.1]; exact k4)]; simp only [Option.bind_some]; rw [qt0 k3 (by omega)]; simp only [Option.bind_some]; obtain ⟨nu1, d, e1, h1, h2, h3, h4⟩ := jn3 hs hT v0 v1 W 0 nu l [] (by omega) hR.nu; rw [h1]; simp only [Option.bind_some, List.nil_append]; have hlt := (List.getElem?_eq_some_iff.1 e).1
   have hR2 : RmOK W N size pads ac ns nu1 (l ++ d) (bs ++ [rdOf false ac (li / size)]) (rs ++ [e1]) := by
    refine ⟨h2, by simp [hR.len], by simp; omega, ?_, ?_⟩
    ·intro i b hb; by_cases ei : i < bs.length
     ·rw [List.getElem?_append_left ei] at hb; obtain ⟨v, h5, h6⟩ := hR.acc i b hb; exact ⟨v, kd0 h5, h6⟩
     ·have hi : i = bs.length := by
       have := (List.getElem?_eq_some_iff.1 hb).1; simp at this; omega
      subst hi; rw [List.getElem?_append_right (Nat.le_refl _)] at hb; simp at hb; exact ⟨li, kd0 e, hb.symm⟩
    ·intro i row hr; by_cases ei : i < rs.length
     ·rw [List.getElem?_append_left ei] at hr; obtain ⟨h0, v, h5, h6⟩ := hR.row i row hr; refine ⟨h0, v, kd0 h5, fun j hj => ?_⟩; obtain ⟨x, hx, hx2⟩ := h6 j hj; exact ⟨x, hx, hx2.app⟩
     ·have hi : i = rs.length := by
       have := (List.getElem?_eq_some_iff.1 hr).1; simp at this; omega
      subst hi; rw [List.getElem?_append_right (Nat.le_refl _)] at hr; simp at hr; subst hr; refine ⟨h3, li, kd0 (by rw [hR.len]; exact e), fun j hj => ?_⟩; obtain ⟨x, hx, hx2⟩ := h4 j hj; exact ⟨x, hx, by rw [Nat.zero_add] at hx2; exact hx2⟩
   obtain ⟨bsF, rsF, nuF, lF, h5, h6, h7⟩ := ih nu1 (l ++ d) _ _ hR2 (by simp; omega); exact ⟨bsF, rsF, nuF, d ++ lF, by simpa using h5, by simpa using h6, by simpa using h7⟩
theorem xt3 (hs : ya2 W n N size tapes kd pads) (hT : yp0 W n ns) (hn : ac.length = n) {start : Int} (s0 : 0 ≤ start) (s1 : start < (n : Int)) {f : Nat} (hf : N < f) :
  ∃ r, jf2 kd tapes size W N f start ac ns = some r ∧ 0 < r.1.length ∧ r.1.length ≤ N + 1 ∧ yp0 W r.1.length r.2 ∧ lng W r.1 r.2 0 = lngR W pads ac ns (start, 0) := by
 obtain ⟨b1, b2, b3, b4, b5⟩ := zo2 hs s0 s1 (e := 0) (by omega) (by have := hs.s1; omega); rw [Int.add_zero] at b1 b2 b4 b5
 have hw : wrap64 (start * size) = start * size := by
  have h2 : (n : Int) * size ≤ 100000 * 8 := Int.mul_le_mul (by have := hs.n; omega) hs.s8 (by have := hs.s1; omega) (by omega); have hN := hs.N; unfold wrap64; omega
 have hNu : yf3 N ((List.replicate N (-1)).set (start * size).toNat 0) [start * size] := by
  refine ⟨by simp, by simp; omega, by simp, fun v v0 v1 => ?_⟩; by_cases e : start * size = v
  ·right; exact ⟨0, by rw [← e]; exact qw0 b1 (by simp; omega), by simp [e]⟩
  ·left; rw [jr0 b1 v0 e]; refine ⟨?_, by simpa using fun h => e h.symm⟩
   have : rd (List.replicate N (-1)) v = -1 := by
    (have hv : v.toNat < N := by omega); simp [rd, List.getD_eq_getElem?_getD, hv]
   omega
 obtain ⟨bs, rs, nu, lF, hr, hR, hl⟩ := xs3 hs hT hn f _ _ [] [] ⟨hNu, rfl, by simp, by simp, by simp⟩ (by simpa using hf); generalize hL : [start * size] ++ lF = L at hr hR hl; have hLl := jy0 L ((List.range N).map (fun k : Nat => (k : Int))) hR.nu.nod (fun v hv => by have := hR.nu.rng v hv; exact List.mem_map.2 ⟨v.toNat, List.mem_range.2 (by omega), by omega⟩); simp at hLl; refine ⟨_, by unfold jf2; rw [hw, if_pos ⟨b1, b2⟩, hr]; rfl, by simp, by simp; omega, ?_, ?_⟩
 ·refine ⟨by simp [hR.len], fun row hrow => ?_⟩; simp only [List.length_append, List.length_cons, List.length_nil]
  rcases List.mem_append.1 hrow with h | h
  ·obtain ⟨row0, h0, rfl⟩ := List.mem_map.1 h; obtain ⟨i, hi, he⟩ := List.getElem_of_mem h0; obtain ⟨hW, v, _, hj⟩ := hR.row i row0 (by rw [List.getElem?_eq_getElem hi, he]); refine ⟨by simp [jk0, hW], fun x hx => ?_⟩; obtain ⟨y, hy, rfl⟩ := List.mem_map.1 hx; obtain ⟨j, hj1, hj2⟩ := List.getElem_of_mem hy; obtain ⟨x2, hx2, hE⟩ := hj j (by omega); rw [List.getElem?_eq_getElem hj1, hj2] at hx2; obtain rfl := Option.some.inj hx2
   rcases hE with ⟨_, h5⟩ | ⟨q, h5, _, h6⟩
   ·rw [h5]; simp; omega
   ·have := (List.getElem?_eq_some_iff.1 h6).1; rw [h5, if_neg (by omega)]; omega
  ·simp at h; subst h; refine ⟨by simp, fun x hx => ?_⟩; rw [List.eq_of_mem_replicate hx]; omega
 ·have hdead : ∀ w, lng W (bs ++ [false]) (rs.map (jk0 (L.length : Int)) ++ [List.replicate W (L.length : Int)]) (L.length : Int) w = false := by
   intro w
   induction w with
   | nil =>
    simp only [lng, rdOf, Int.toNat_natCast]; rw [List.getD_eq_getElem?_getD, ← hl, List.getElem?_append_right (Nat.le_refl _)]; simp
   | cons c w ih =>
    simp only [lng]; by_cases c0 : 0 ≤ c
    ·by_cases c1 : c < (W : Int)
     ·have : stp (rs.map (jk0 (L.length : Int)) ++ [List.replicate W (L.length : Int)]) (L.length : Int) c = (L.length : Int) := by
       simp only [stp, Int.toNat_natCast]; rw [List.getD_eq_getElem?_getD, List.getElem?_append_right (by simp [hR.len, hl])]; (have hcW : c.toNat < W := by omega); simp [hR.len, hl, rd, List.getD_eq_getElem?_getD, hcW]
      rw [this, ih]; simp
     ·simp [c1]
    ·simp [c0]
  have key : ∀ (w : List Int) (i : Nat) (v : Int), L[i]? = some v → lng W (bs ++ [false]) (rs.map (jk0 (L.length : Int)) ++ [List.replicate W (L.length : Int)]) (i : Int) w = lngR W pads ac ns (v / size, v % size) w := by
   intro w
   induction w with
   | nil =>
    intro i v hv; have hi := (List.getElem?_eq_some_iff.1 hv).1; obtain ⟨v0, v1⟩ := hR.nu.rng v (List.mem_of_getElem? hv); obtain ⟨k1, k2, k3, k4, k5, k6⟩ := qs1 hs v0 v1; (have hib : i < bs.length := by omega); obtain ⟨v', h1, h2⟩ := hR.acc i bs[i] (List.getElem?_eq_getElem hib); rw [hv] at h1; obtain rfl := Option.some.inj h1; simp only [lng, lngR, rdOf, Int.toNat_natCast, k5, decide_true, Bool.true_and]; rw [List.getD_eq_getElem?_getD, List.getElem?_append_left hib, List.getElem?_eq_getElem hib, h2]; rfl
   | cons c w ih =>
    intro i v hv; have hi := (List.getElem?_eq_some_iff.1 hv).1; obtain ⟨v0, v1⟩ := hR.nu.rng v (List.mem_of_getElem? hv); obtain ⟨k1, k2, k3, k4, k5, k6⟩ := qs1 hs v0 v1; simp only [lng, lngR, k5, decide_true, Bool.true_and]; by_cases c0 : 0 ≤ c
    ·by_cases c1 : c < (W : Int)
     ·simp only [c0, c1, decide_true, Bool.true_and]; (have hir : i < rs.length := by rw [hR.len]; omega); obtain ⟨hW, v', h1, hj⟩ := hR.row i rs[i] (List.getElem?_eq_getElem hir); rw [hv] at h1; obtain rfl := Option.some.inj h1; obtain ⟨x, hx, hE⟩ := hj c.toNat (by omega); rw [show ((c.toNat : Nat) : Int) = c by omega] at hE
      have hst : stp (rs.map (jk0 (L.length : Int)) ++ [List.replicate W (L.length : Int)]) (i : Int) c = if x < 0 then (L.length : Int) else x := by
       simp only [stp, Int.toNat_natCast]; rw [List.getD_eq_getElem?_getD, List.getElem?_append_left (by simpa using hir), List.getElem?_map, List.getElem?_eq_getElem hir]; simp [rd, List.getD_eq_getElem?_getD, jk0, hx]
      rw [hst]
      rcases hE with ⟨h5, h6⟩ | ⟨q, h5, h6, h7⟩
      ·rw [h6, if_pos (by omega), hdead]
       have : ¬ bits .andNot .i64 (v % size) (rd pads c) = 0 := by
        intro hb; unfold endE at h5; rw [if_pos hb] at h5; have := qi1 hs.pr c0 (by rw [hs.pl]; exact c1); omega
       simp [this]
      ·rw [h5, if_neg (by omega)]
       have hb : bits .andNot .i64 (v % size) (rd pads c) = 0 := by
        by_cases hb : bits .andNot .i64 (v % size) (rd pads c) = 0
        ·exact hb
        ·unfold endE at h6; rw [if_neg hb] at h6; omega
       (have he : endE pads (v % size) c = rd pads c := by unfold endE; rw [if_pos hb]); rw [ih q _ h7, he]; have hpr := qi1 hs.pr c0 (by rw [hs.pl]; exact c1); have hst2 := hT.stpd k3 k4 c0 c1; obtain ⟨_, _, _, d4, d5⟩ := zo2 hs hst2.1 hst2.2 hpr.1 hpr.2; rw [d4, d5]; simp [hb]
     ·simp [c1]
    ·simp [c0]
  funext w
  have h0 := key w 0 (start * size) (by rw [← hL]; simp); rw [b4, b5] at h0; exact h0
end
attribute [local go_sem] kc0 ka0 zg1 zf1 jh0 jg0 kb0 jz0
end Go.Proofs.YtocfcpicleomcaaDoor.X
