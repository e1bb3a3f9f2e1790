import Derived.Test.YtelicdmaohllgaaDoorCT9
import Derived.Test.YtelicdmaohllgaaDoorCT6
import Derived.Test.YtelicdmaohllgaaDoorCT2
import Derived.Test.YtelicdmaohllgaaDoorCT3
import Derived.Test.YtelicdmaohllgaaDoorCT8
import Derived.Test.YtelicdmaohllgaaDoorCT7
import Derived.Test.YtelicdmaohllgaaDoorCT5
namespace Go.Proofs.YtelicdmaohllgaaDoor.X
set_option maxHeartbeats 16000000
set_option maxRecDepth 100000
open Go.RowKit Go.Proofs.YtelicdmaohllgaaDoorW.PrintWords Go.Proofs.YtelicdmaohllgaaDoorW.PrintLast Go.Proofs.YtelicdmaohllgaaDoorW.PrintMore
set_option linter.unusedVariables false
set_option linter.unusedSimpArgs false
section
variable {W n N kd : Nat} {ac : List Bool} {ns : List (List Int)} {pads : List Int} {tapes size : Int}
/-- The numbers of the pairs that were met. -/
structure NumOK (N : Nat) (nu l : List Int) : Prop where
 len : nu.length = N
 rng : ∀ v ∈ l, 0 ≤ v ∧ v < (N : Int)
 nod : l.Nodup
 num : ∀ v : Int, 0 ≤ v → v < (N : Int) → (rd nu v < 0 ∧ v ∉ l) ∨ ∃ i : Nat, rd nu v = (i : Int) ∧ l[i]? = some v
theorem NumOK.push {nu l : List Int} (h : NumOK N nu l) {v : Int} (v0 : 0 ≤ v) (v1 : v < (N : Int)) (hx : rd nu v < 0) : NumOK N (nu.set v.toNat (l.length : Int)) (l ++ [v]) := by
 have hnew : v ∉ l := by
  rcases h.num v v0 v1 with ⟨_, h2⟩ | ⟨i, h2, _⟩
  ·exact h2
  ·omega
 refine ⟨by simp [h.len], ?_, ?_, ?_⟩
 ·intro s hs
  rcases List.mem_append.1 hs with hs | hs
  ·exact h.rng s hs
  ·simp at hs; subst hs; exact ⟨v0, v1⟩
 ·exact List.nodup_append.2 ⟨h.nod, by simp, fun a ha b hb => by simp at hb; subst hb; exact fun he => hnew (he ▸ ha)⟩
 ·intro u u0 u1; by_cases e : v = u
  ·subst e; right; exact ⟨l.length, rd_set_same v0 (by rw [h.len]; exact v1), by simp⟩
  ·rw [rd_set_other v0 u0 e]
   rcases h.num u u0 u1 with ⟨h2, h3⟩ | ⟨i, h2, h3⟩
   ·left; refine ⟨h2, fun hm => ?_⟩
    rcases List.mem_append.1 hm with hm | hm
    ·exact h3 hm
    ·simp at hm; exact e hm.symm
   ·right; exact ⟨i, h2, getE_app h3⟩
def endE (pads : List Int) (p c : Int) : Int := if bits .andNot .i64 p (rd pads c) = 0 then rd pads c else -1
/-- An entry of a row: no state, or a pair that was met. -/
def EntryOK (size : Int) (pads : List Int) (ns : List (List Int)) (s p : Int) (l : List Int) (c x : Int) : Prop :=
 (endE pads p c < 0 ∧ x = -1) ∨ ∃ q : Nat, x = (q : Int) ∧ 0 ≤ endE pads p c ∧ l[q]? = some (stp ns s c * size + endE pads p c)
theorem EntryOK.app {s p : Int} {l d : List Int} {c x : Int} (h : EntryOK size pads ns s p l c x) : EntryOK size pads ns s p (l ++ d) c x := by
 rcases h with h | ⟨q, h1, h2, h3⟩
 ·exact .inl h
 ·exact .inr ⟨q, h1, h2, getE_app h3⟩
structure SizeOK (W n N : Nat) (size tapes : Int) (kd : Nat) (pads : List Int) : Prop where
 s1 : 1 ≤ size
 s8 : size ≤ 8
 N : (N : Int) = (n : Int) * size
 n : n ≤ 100000
 pl : pads.length = W
 pr : ∀ x ∈ pads, 0 ≤ x ∧ x < size
 en : ∀ p c, 0 ≤ p → p < size → 0 ≤ c → c < (W : Int) → spec_l01Ended.f kd tapes p c = some (endE pads p c)
theorem key_bound (hs : SizeOK W n N size tapes kd pads) {q e : Int} (q0 : 0 ≤ q) (q1 : q < (n : Int)) (e0 : 0 ≤ e) (e1 : e < size) : 0 ≤ q * size + e ∧ q * size + e < (N : Int) ∧ wrap64 (wrap64 (q * size) + e) = q * size + e ∧ (q * size + e) / size = q ∧ (q * size + e) % size = e := by
 have h0 : 0 ≤ q * size := Int.mul_nonneg q0 (by have := hs.s1; omega); have h1 : (q + 1) * size ≤ (n : Int) * size := Int.mul_le_mul_of_nonneg_right (by omega) (by have := hs.s1; omega); rw [Int.add_mul, Int.one_mul] at h1; have h2 : (n : Int) * size ≤ 100000 * 8 := Int.mul_le_mul (by have := hs.n; omega) hs.s8 (by have := hs.s1; omega) (by omega); have hN := hs.N; refine ⟨by omega, by omega, ?_, ?_, ?_⟩
 ·unfold wrap64; omega
 ·rw [Int.add_comm, Int.add_mul_ediv_right _ _ (by have := hs.s1; omega), Int.ediv_eq_zero_of_lt e0 e1, Int.zero_add]
 ·rw [Int.add_comm, Int.add_mul_emod_self_right, Int.emod_eq_of_lt e0 e1]
theorem key_parts (hs : SizeOK W n N size tapes kd pads) {v : Int} (v0 : 0 ≤ v) (v1 : v < (N : Int)) : wrap64 (Int.tdiv v size) = v / size ∧ Int.tmod v size = v % size ∧ 0 ≤ v / size ∧ v / size < (n : Int) ∧ 0 ≤ v % size ∧ v % size < size := by
 have hsz := hs.s1; have h0 : 0 ≤ v / size := Int.ediv_nonneg v0 (by omega); have h1 : v / size < (n : Int) := Int.ediv_lt_of_lt_mul (by omega) (by rw [← hs.N]; exact v1); refine ⟨?_, Int.tmod_eq_emod_of_nonneg v0, h0, h1, Int.emod_nonneg _ (by omega), Int.emod_lt_of_pos _ (by omega)⟩; rw [Int.tdiv_eq_ediv_of_nonneg v0]; have := hs.n; unfold wrap64; omega
theorem endE_range (hs : SizeOK W n N size tapes kd pads) {p c : Int} (c0 : 0 ≤ c) (c1 : c < (W : Int)) : endE pads p c = -1 ∨ (0 ≤ endE pads p c ∧ endE pads p c < size) := by
 unfold endE
 split
 ·exact .inr (rd_range hs.pr c0 (by rw [hs.pl]; exact c1))
 ·exact .inl rfl
theorem rrow_some (hs : SizeOK W n N size tapes kd pads) (hT : TableOK W n ns) {li : Int} (l0 : 0 ≤ li) (l1 : li < (N : Int)) :
  ∀ (m c : Nat) (nu l row : List Int), c + m = W → NumOK N nu l → ∃ nu1 d e, rrowF kd tapes size (rdOf [] ns (li / size)) li m c nu l row = some (nu1, l ++ d, row ++ e) ∧ NumOK N nu1 (l ++ d) ∧ e.length = m ∧ ∀ j : Nat, j < m → ∃ x, e[j]? = some x ∧ EntryOK size pads ns (li / size) (li % size) (l ++ d) ((c + j : Nat) : Int) x := by
 obtain ⟨k1, k2, k3, k4, k5, k6⟩ := key_parts hs l0 l1; intro m
 induction m with
 | zero => intro c nu l row _ hN; exact ⟨nu, [], [], by simp [rrowF], by simpa using hN, rfl, fun j hj => by omega⟩
 | succ m ih =>
  intro c nu l row hc hN; (have c1 : (c : Int) < (W : Int) := by omega); rw [rrowF, k2, hs.en _ _ k5 k6 (by omega) c1]; simp only [Option.bind_some]
  rcases endE_range hs (p := li % size) (c := (c : Int)) (by omega) c1 with he | ⟨e0, e1⟩
  ·rw [if_pos (by omega)]; obtain ⟨nu1, d, e, h1, h2, h3, h4⟩ := ih (c + 1) nu l (row ++ [-1]) (by omega) hN; refine ⟨nu1, d, -1 :: e, by simpa using h1, h2, by simp [h3], fun j hj => ?_⟩
   cases j with
   | zero => exact ⟨-1, by simp, .inl ⟨by rw [Nat.add_zero]; omega, rfl⟩⟩
   | succ j =>
    obtain ⟨x, hx, hx2⟩ := h4 j (by omega); exact ⟨x, by simpa using hx, by rw [show c + (j + 1) = c + 1 + j by omega]; exact hx2⟩
  ·rw [if_neg (by omega)]; have hrow := hT.row k3 k4; rw [at1_in (by omega) (by rw [show (rdOf [] ns (li / size)).length = W from (hT.2 _ hrow).1]; exact c1)]; simp only [Option.bind_some]; have est : rdOf 0 (rdOf [] ns (li / size)) (c : Int) = stp ns (li / size) (c : Int) := rfl; rw [est]; have hst := hT.stpd k3 k4 (c := (c : Int)) (by omega) c1; obtain ⟨b1, b2, b3, b4, b5⟩ := key_bound hs hst.1 hst.2 e0 e1; rw [b3, at1_in b1 (by rw [hN.len]; exact b2)]; simp only [Option.bind_some]; rw [show rdOf 0 nu (stp ns (li / size) (c : Int) * size + endE pads (li % size) (c : Int)) = rd nu (stp ns (li / size) (c : Int) * size + endE pads (li % size) (c : Int)) from rfl]
   rcases hN.num _ b1 b2 with ⟨h2, h3⟩ | ⟨i, h2, h3⟩
   ·rw [if_pos h2]; have hlen := nodup_len l ((List.range N).map (fun k : Nat => (k : Int))) hN.nod (fun v hv => by have := hN.rng v hv; exact List.mem_map.2 ⟨v.toNat, List.mem_range.2 (by omega), by omega⟩)
    have hlen2 : N ≤ 800000 := by
     have := hs.N; have h5 : (n : Int) * size ≤ 100000 * 8 := Int.mul_le_mul (by have := hs.n; omega) hs.s8 (by have := hs.s1; omega) (by omega); omega
    rw [if_pos (by simp at hlen; omega)]; obtain ⟨nu1, d, e, h5, h6, h7, h8⟩ := ih (c + 1) _ _ (row ++ [(l.length : Int)]) (by omega) (hN.push b1 b2 h2); refine ⟨nu1, _ :: d, (l.length : Int) :: e, by simpa using h5, by simpa using h6, by simp [h7], fun j hj => ?_⟩
    cases j with
    | zero => exact ⟨_, by simp, .inr ⟨l.length, rfl, by rw [Nat.add_zero]; exact e0, by simp⟩⟩
    | succ j =>
     obtain ⟨x, hx, hx2⟩ := h8 j (by omega); exact ⟨x, by simpa using hx, by rw [show c + (j + 1) = c + 1 + j by omega]; simpa using hx2⟩
   ·rw [if_neg (by omega), h2]; obtain ⟨nu1, d, e, h5, h6, h7, h8⟩ := ih (c + 1) nu l (row ++ [(i : Int)]) (by omega) hN; refine ⟨nu1, d, (i : Int) :: e, by simpa using h5, h6, by simp [h7], fun j hj => ?_⟩
    cases j with
    | zero => exact ⟨_, by simp, .inr ⟨i, rfl, by rw [Nat.add_zero]; exact e0, by rw [Nat.add_zero]; exact getE_app h3⟩⟩
    | succ j =>
     obtain ⟨x, hx, hx2⟩ := h8 j (by omega); exact ⟨x, by simpa using hx, by rw [show c + (j + 1) = c + 1 + j by omega]; exact hx2⟩
/-- The rows made so far. -/
structure RmOK (W N : Nat) (size : Int) (pads : List Int) (ac : List Bool) (ns : List (List Int)) (nu l : List Int) (bs : List Bool) (rs : List (List Int)) : Prop where
 nu : NumOK N nu l
 len : rs.length = bs.length
 le : bs.length ≤ l.length
 acc : ∀ (i : Nat) b, bs[i]? = some b → ∃ v, l[i]? = some v ∧ b = rdOf false ac (v / size)
 row : ∀ (i : Nat) row, rs[i]? = some row → row.length = W ∧ ∃ v, l[i]? = some v ∧ ∀ j : Nat, j < W → ∃ x, row[j]? = some x ∧ EntryOK size pads ns (v / size) (v % size) l (j : Int) x
theorem rmain_some (hs : SizeOK W n N size tapes kd pads) (hT : TableOK W n ns) (hn : ac.length = n) :
  ∀ (f : Nat) (nu l : List Int) (bs : List Bool) (rs : List (List Int)), RmOK W N size pads ac ns nu l bs rs → N < f + bs.length → ∃ bsF rsF nuF lF, rmainF kd tapes size W ac ns f nu l bs rs = some (bsF, rsF, l ++ lF) ∧ RmOK W N size pads ac ns nuF (l ++ lF) bsF rsF ∧ bsF.length = (l ++ lF).length := by
 intro f
 induction f with
 | zero =>
  intro nu l bs rs hR hf; have hlen := nodup_len l ((List.range N).map (fun k : Nat => (k : Int))) hR.nu.nod (fun v hv => by have := hR.nu.rng v hv; exact List.mem_map.2 ⟨v.toNat, List.mem_range.2 (by omega), by omega⟩); have := hR.le; simp at hlen; omega
 | succ f ih =>
  intro nu l bs rs hR hf; rw [rmainF]
  cases e : l[bs.length]? with
  | none =>
   have := List.getElem?_eq_none_iff.1 e; have := hR.le; exact ⟨bs, rs, nu, [], by simp, by simpa using hR, by simp; omega⟩
  | some li =>
   simp only; obtain ⟨v0, v1⟩ := hR.nu.rng li (List.mem_of_getElem? e); obtain ⟨k1, k2, k3, k4, k5, k6⟩ := key_parts hs v0 v1; rw [k1, at1_in k3 (by rw [hT.1]; exact k4)]; simp only [Option.bind_some]; rw [at1_in k3 (by omega)]; simp only [Option.bind_some]; obtain ⟨nu1, d, e1, h1, h2, h3, h4⟩ := rrow_some hs hT v0 v1 W 0 nu l [] (by omega) hR.nu; rw [h1]; simp only [Option.bind_some, List.nil_append]; have hlt := (List.getElem?_eq_some_iff.1 e).1
   have hR2 : RmOK W N size pads ac ns nu1 (l ++ d) (bs ++ [rdOf false ac (li / size)]) (rs ++ [e1]) := by
    refine ⟨h2, by simp [hR.len], by simp; omega, ?_, ?_⟩
    ·intro i b hb; by_cases ei : i < bs.length
     ·rw [List.getElem?_append_left ei] at hb; obtain ⟨v, h5, h6⟩ := hR.acc i b hb; exact ⟨v, getE_app h5, h6⟩
     ·have hi : i = bs.length := by
       have := (List.getElem?_eq_some_iff.1 hb).1; simp at this; omega
      subst hi; rw [List.getElem?_append_right (Nat.le_refl _)] at hb; simp at hb; exact ⟨li, getE_app e, hb.symm⟩
    ·intro i row hr; by_cases ei : i < rs.length
     ·rw [List.getElem?_append_left ei] at hr; obtain ⟨h0, v, h5, h6⟩ := hR.row i row hr; refine ⟨h0, v, getE_app h5, fun j hj => ?_⟩; obtain ⟨x, hx, hx2⟩ := h6 j hj; exact ⟨x, hx, hx2.app⟩
     ·have hi : i = rs.length := by
       have := (List.getElem?_eq_some_iff.1 hr).1; simp at this; omega
      subst hi; rw [List.getElem?_append_right (Nat.le_refl _)] at hr; simp at hr; subst hr; refine ⟨h3, li, getE_app (by rw [hR.len]; exact e), fun j hj => ?_⟩; obtain ⟨x, hx, hx2⟩ := h4 j hj; exact ⟨x, hx, by rw [Nat.zero_add] at hx2; exact hx2⟩
   obtain ⟨bsF, rsF, nuF, lF, h5, h6, h7⟩ := ih nu1 (l ++ d) _ _ hR2 (by simp; omega); exact ⟨bsF, rsF, nuF, d ++ lF, by simpa using h5, by simpa using h6, by simpa using h7⟩
theorem rightF_law (hs : SizeOK W n N size tapes kd pads) (hT : TableOK W n ns) (hn : ac.length = n) {start : Int} (s0 : 0 ≤ start) (s1 : start < (n : Int)) {f : Nat} (hf : N < f) :
  ∃ r, rightF kd tapes size W N f start ac ns = some r ∧ 0 < r.1.length ∧ r.1.length ≤ N + 1 ∧ TableOK W r.1.length r.2 ∧ lng W r.1 r.2 0 = lngR W pads ac ns (start, 0) := by
 obtain ⟨b1, b2, b3, b4, b5⟩ := key_bound hs s0 s1 (e := 0) (by omega) (by have := hs.s1; omega); rw [Int.add_zero] at b1 b2 b4 b5
 have hw : wrap64 (start * size) = start * size := by
  have h2 : (n : Int) * size ≤ 100000 * 8 := Int.mul_le_mul (by have := hs.n; omega) hs.s8 (by have := hs.s1; omega) (by omega); have hN := hs.N; unfold wrap64; omega
 have hNu : NumOK N ((List.replicate N (-1)).set (start * size).toNat 0) [start * size] := by
  refine ⟨by simp, by simp; omega, by simp, fun v v0 v1 => ?_⟩; by_cases e : start * size = v
  ·right; exact ⟨0, by rw [← e]; exact rd_set_same b1 (by simp; omega), by simp [e]⟩
  ·left; rw [rd_set_other b1 v0 e]; refine ⟨?_, by simpa using fun h => e h.symm⟩
   have : rd (List.replicate N (-1)) v = -1 := by
    (have hv : v.toNat < N := by omega); simp [rd, List.getD_eq_getElem?_getD, hv]
   omega
 obtain ⟨bs, rs, nu, lF, hr, hR, hl⟩ := rmain_some hs hT hn f _ _ [] [] ⟨hNu, rfl, by simp, by simp, by simp⟩ (by simpa using hf); generalize hL : [start * size] ++ lF = L at hr hR hl; have hLl := nodup_len L ((List.range N).map (fun k : Nat => (k : Int))) hR.nu.nod (fun v hv => by have := hR.nu.rng v hv; exact List.mem_map.2 ⟨v.toNat, List.mem_range.2 (by omega), by omega⟩); simp at hLl; refine ⟨_, by unfold rightF; rw [hw, if_pos ⟨b1, b2⟩, hr]; rfl, by simp, by simp; omega, ?_, ?_⟩
 ·refine ⟨by simp [hR.len], fun row hrow => ?_⟩; simp only [List.length_append, List.length_cons, List.length_nil]
  rcases List.mem_append.1 hrow with h | h
  ·obtain ⟨row0, h0, rfl⟩ := List.mem_map.1 h; obtain ⟨i, hi, he⟩ := List.getElem_of_mem h0; obtain ⟨hW, v, _, hj⟩ := hR.row i row0 (by rw [List.getElem?_eq_getElem hi, he]); refine ⟨by simp [fixRow, hW], fun x hx => ?_⟩; obtain ⟨y, hy, rfl⟩ := List.mem_map.1 hx; obtain ⟨j, hj1, hj2⟩ := List.getElem_of_mem hy; obtain ⟨x2, hx2, hE⟩ := hj j (by omega); rw [List.getElem?_eq_getElem hj1, hj2] at hx2; obtain rfl := Option.some.inj hx2
   rcases hE with ⟨_, h5⟩ | ⟨q, h5, _, h6⟩
   ·rw [h5]; simp; omega
   ·have := (List.getElem?_eq_some_iff.1 h6).1; rw [h5, if_neg (by omega)]; omega
  ·simp at h; subst h; refine ⟨by simp, fun x hx => ?_⟩; rw [List.eq_of_mem_replicate hx]; omega
 ·have hdead : ∀ w, lng W (bs ++ [false]) (rs.map (fixRow (L.length : Int)) ++ [List.replicate W (L.length : Int)]) (L.length : Int) w = false := by
   intro w
   induction w with
   | nil =>
    simp only [lng, rdOf, Int.toNat_natCast]; rw [List.getD_eq_getElem?_getD, ← hl, List.getElem?_append_right (Nat.le_refl _)]; simp
   | cons c w ih =>
    simp only [lng]; by_cases c0 : 0 ≤ c
    ·by_cases c1 : c < (W : Int)
     ·have : stp (rs.map (fixRow (L.length : Int)) ++ [List.replicate W (L.length : Int)]) (L.length : Int) c = (L.length : Int) := by
       simp only [stp, Int.toNat_natCast]; rw [List.getD_eq_getElem?_getD, List.getElem?_append_right (by simp [hR.len, hl])]; (have hcW : c.toNat < W := by omega); simp [hR.len, hl, rd, List.getD_eq_getElem?_getD, hcW]
      rw [this, ih]; simp
     ·simp [c1]
    ·simp [c0]
  have key : ∀ (w : List Int) (i : Nat) (v : Int), L[i]? = some v → lng W (bs ++ [false]) (rs.map (fixRow (L.length : Int)) ++ [List.replicate W (L.length : Int)]) (i : Int) w = lngR W pads ac ns (v / size, v % size) w := by
   intro w
   induction w with
   | nil =>
    intro i v hv; have hi := (List.getElem?_eq_some_iff.1 hv).1; obtain ⟨v0, v1⟩ := hR.nu.rng v (List.mem_of_getElem? hv); obtain ⟨k1, k2, k3, k4, k5, k6⟩ := key_parts hs v0 v1; (have hib : i < bs.length := by omega); obtain ⟨v', h1, h2⟩ := hR.acc i bs[i] (List.getElem?_eq_getElem hib); rw [hv] at h1; obtain rfl := Option.some.inj h1; simp only [lng, lngR, rdOf, Int.toNat_natCast, k5, decide_true, Bool.true_and]; rw [List.getD_eq_getElem?_getD, List.getElem?_append_left hib, List.getElem?_eq_getElem hib, h2]; rfl
   | cons c w ih =>
    intro i v hv; have hi := (List.getElem?_eq_some_iff.1 hv).1; obtain ⟨v0, v1⟩ := hR.nu.rng v (List.mem_of_getElem? hv); obtain ⟨k1, k2, k3, k4, k5, k6⟩ := key_parts hs v0 v1; simp only [lng, lngR, k5, decide_true, Bool.true_and]; by_cases c0 : 0 ≤ c
    ·by_cases c1 : c < (W : Int)
     ·simp only [c0, c1, decide_true, Bool.true_and]; (have hir : i < rs.length := by rw [hR.len]; omega); obtain ⟨hW, v', h1, hj⟩ := hR.row i rs[i] (List.getElem?_eq_getElem hir); rw [hv] at h1; obtain rfl := Option.some.inj h1; obtain ⟨x, hx, hE⟩ := hj c.toNat (by omega); rw [show ((c.toNat : Nat) : Int) = c by omega] at hE
      have hst : stp (rs.map (fixRow (L.length : Int)) ++ [List.replicate W (L.length : Int)]) (i : Int) c = if x < 0 then (L.length : Int) else x := by
       simp only [stp, Int.toNat_natCast]; rw [List.getD_eq_getElem?_getD, List.getElem?_append_left (by simpa using hir), List.getElem?_map, List.getElem?_eq_getElem hir]; simp [rd, List.getD_eq_getElem?_getD, fixRow, hx]
      rw [hst]
      rcases hE with ⟨h5, h6⟩ | ⟨q, h5, h6, h7⟩
      ·rw [h6, if_pos (by omega), hdead]
       have : ¬ bits .andNot .i64 (v % size) (rd pads c) = 0 := by
        intro hb; unfold endE at h5; rw [if_pos hb] at h5; have := rd_range hs.pr c0 (by rw [hs.pl]; exact c1); omega
       simp [this]
      ·rw [h5, if_neg (by omega)]
       have hb : bits .andNot .i64 (v % size) (rd pads c) = 0 := by
        by_cases hb : bits .andNot .i64 (v % size) (rd pads c) = 0
        ·exact hb
        ·unfold endE at h6; rw [if_neg hb] at h6; omega
       (have he : endE pads (v % size) c = rd pads c := by unfold endE; rw [if_pos hb]); rw [ih q _ h7, he]; have hpr := rd_range hs.pr c0 (by rw [hs.pl]; exact c1); have hst2 := hT.stpd k3 k4 c0 c1; obtain ⟨_, _, _, d4, d5⟩ := key_bound hs hst2.1 hst2.2 hpr.1 hpr.2; rw [d4, d5]; simp [hb]
     ·simp [c1]
    ·simp [c0]
  funext w
  have h0 := key w 0 (start * size) (by rw [← hL]; simp); rw [b4, b5] at h0; exact h0
end
end Go.Proofs.YtelicdmaohllgaaDoor.X
namespace Go.Proofs.YtelicdmaohllgaaDoor.Pure
set_option maxHeartbeats 16000000
set_option maxRecDepth 100000
open Go.RowKit Go.Proofs.YtelicdmaohllgaaDoor.X Go.Proofs.YtelicdmaohllgaaDoorW.PrintWords Go.Proofs.YtelicdmaohllgaaDoorW.PrintLast
set_option linter.unusedVariables false
set_option linter.unusedSimpArgs false
theorem Ev.succ {α : Type} {g : Nat → Option α} {r : α} (h : Ev (fun k => g (k + 1)) r) : Ev g r := Ev.step (fun _ => rfl) h
theorem Ev.const {α : Type} {o : Option α} {r : α} (h : o = some r) : Ev (fun _ => o) r := ⟨0, fun _ _ => h⟩
theorem w64 {n : Int} (h0 : -9223372036854775808 ≤ n) (h1 : n ≤ 9223372036854775807) : wrap64 n = n := by
 unfold wrap64; omega
theorem rd_nat (xs : List Int) (i : Nat) (h : i < xs.length) : rd xs (i : Int) = xs[i] := by
 simp [rd, List.getD_eq_getElem?_getD, h]
theorem rdOf_nat {α : Type} (d : α) (xs : List α) (i : Nat) (h : i < xs.length) : rdOf d xs (i : Int) = xs[i] := by
 simp [rdOf, List.getD_eq_getElem?_getD, h]
theorem set_take {α : Type} (l ys : List α) (i : Nat) (x : α) (hx : l[i]? = some x) (hl : ys.length = l.length) (h : ys.take i = l.take i) : (ys.set i x).take (i + 1) = l.take (i + 1) := by
 have hi : i < l.length := (List.getElem?_eq_some_iff.1 hx).1; apply List.ext_getElem?; intro j; have hj := congrArg (fun z => z[j]?) h
 simp only [List.getElem?_take] at hj ⊢
 rw [List.getElem?_set]; by_cases h1 : j < i + 1
 ·by_cases h2 : i = j
  ·subst h2; simp only [h1, if_true]; rw [if_pos (by omega)]; exact hx.symm
  ·have h3 : j < i := by omega
   simp only [h1, if_true, h2, if_false, h3] at hj ⊢
   exact hj
 ·simp [h1]
theorem Ev.pos {α : Type} {c : Prop} [Decidable c] {f g : Nat → Option α} {r : α} (h : c) (k : Ev f r) : Ev (fun n => if c then f n else g n) r := by
 obtain ⟨K, k⟩ := k; exact ⟨K, fun n hn => (if_pos h).trans (k n hn)⟩
theorem Ev.neg {α : Type} {c : Prop} [Decidable c] {f g : Nat → Option α} {r : α} (h : ¬ c) (k : Ev g r) : Ev (fun n => if c then f n else g n) r := by
 obtain ⟨K, k⟩ := k; exact ⟨K, fun n hn => (if_neg h).trans (k n hn)⟩
theorem Ev.guard {α β : Type} {g : Nat → Option α} {a : α} {f : Nat → Option β} {r : β} {D : ∀ k, Decidable (g k = some a)} (hg : Ev g a) (h : Ev f r) : Ev (fun k => if g k = some a then f k else none) r := by
 obtain ⟨K, hg⟩ := hg; obtain ⟨L, h⟩ := h; exact ⟨max K L, fun k hk => (if_pos (hg k (by omega))).trans (h k (by omega))⟩
theorem toInt64S_l (l : List Int) (hn : l.length ≤ 35184372088832) (d : Nat) : ∀ (i : Nat) (ys : List Int), i + d = l.length → ys.length = l.length → ys.take i = l.take i → Ev (fun k => laws_toInt64S.l0 k l ys (i : Int)) l := by
 induction d with
 | zero =>
  intro i ys hi hl ht; apply Ev.succ; simp only [laws_toInt64S.l0]; refine Ev.neg (by omega) ?_; refine Ev.const ?_; rw [List.take_of_length_le (by omega), List.take_of_length_le (by omega)] at ht; rw [ht]
 | succ d ih =>
  intro i ys hi hl ht; apply Ev.succ; simp only [laws_toInt64S.l0]; refine Ev.pos (by omega) ?_; refine Ev.pos (by omega) ?_; refine Ev.pos (by omega) ?_; rw [w64 (by omega) (by omega), Int.toNat_natCast]; have := ih (i + 1) (ys.set i (rd l i)) (by omega) (by simp [hl]) (set_take l ys i _ (by rw [rd_nat l i (by omega)]; exact List.getElem?_eq_getElem (by omega)) hl ht); exact this
theorem toInt64S_ev (l : List Int) (hn : l.length ≤ 35184372088832) : Ev (fun k => laws_toInt64S.f k l) l := by
 unfold laws_toInt64S.f; simp only [Int.toNat_natCast]; refine Ev.pos (by omega) ?_; refine Ev.pos hn ?_; exact toInt64S_l l hn l.length 0 _ (by omega) (by simp) (by simp)
theorem eqInt64S_l (l : List Int) (hn : l.length ≤ 35184372088832) (d : Nat) : ∀ (i : Nat), i + d = l.length → Ev (fun k => laws_eqInt64S.l0 k l l (i : Int)) true := by
 induction d with
 | zero =>
  intro i hi; apply Ev.succ; simp only [laws_eqInt64S.l0]; refine Ev.neg (by omega) ?_; exact Ev.const rfl
 | succ d ih =>
  intro i hi; apply Ev.succ; simp only [laws_eqInt64S.l0]; refine Ev.pos (by omega) ?_; refine Ev.pos (by omega) ?_; refine Ev.pos (by omega) ?_; refine Ev.pos trivial ?_; rw [w64 (by omega) (by omega)]; exact ih (i + 1) (by omega)
theorem eqInt64S_ev (l : List Int) (hn : l.length ≤ 35184372088832) : Ev (fun k => laws_eqInt64S.f k l l) true := by
 unfold laws_eqInt64S.f; refine Ev.pos rfl ?_; exact eqInt64S_l l hn l.length 0 (by omega)
theorem rd4_nat (xs : List (List Int)) (i : Nat) (h : i < xs.length) : rd_L5 xs (i : Int) = xs[i] := by
 simp [rd_L5, List.getD_eq_getElem?_getD, h]
theorem toBoolS_l (l : List Bool) (hn : l.length ≤ 35184372088832) (d : Nat) : ∀ (i : Nat) (ys : List Bool), i + d = l.length → ys.length = l.length → ys.take i = l.take i → Ev (fun k => laws_toBoolS.l0 k l ys (i : Int)) l := by
 induction d with
 | zero =>
  intro i ys hi hl ht; apply Ev.succ; simp only [laws_toBoolS.l0]; refine Ev.neg (by omega) ?_; refine Ev.const ?_; rw [List.take_of_length_le (by omega), List.take_of_length_le (by omega)] at ht; rw [ht]
 | succ d ih =>
  intro i ys hi hl ht; apply Ev.succ; simp only [laws_toBoolS.l0]; refine Ev.pos (by omega) ?_; refine Ev.pos (by omega) ?_; refine Ev.pos (by omega) ?_; rw [w64 (by omega) (by omega), Int.toNat_natCast]; have := ih (i + 1) (ys.set i (rdOf false l i)) (by omega) (by simp [hl]) (set_take l ys i _ (by rw [rdOf_nat false l i (by omega)]; exact List.getElem?_eq_getElem (by omega)) hl ht); exact this
theorem toBoolS_ev (l : List Bool) (hn : l.length ≤ 35184372088832) : Ev (fun k => laws_toBoolS.f k l) l := by
 unfold laws_toBoolS.f; simp only [Int.toNat_natCast]; refine Ev.pos (by omega) ?_; refine Ev.pos (by omega) ?_; exact toBoolS_l l hn l.length 0 _ (by omega) (by simp) (by simp)
theorem toInt64SS_l (l : List (List Int)) (hn : l.length ≤ 35184372088832) (hr : ∀ x ∈ l, x.length ≤ 35184372088832) (d : Nat) : ∀ (i : Nat) (ys : List (List Int)), i + d = l.length → ys.length = l.length → ys.take i = l.take i → Ev (fun k => laws_toInt64SS.l0 k l ys (i : Int)) l := by
 induction d with
 | zero =>
  intro i ys hi hl ht; apply Ev.succ; simp only [laws_toInt64SS.l0]; refine Ev.neg (by omega) ?_; refine Ev.const ?_; rw [List.take_of_length_le (by omega), List.take_of_length_le (by omega)] at ht; rw [ht]
 | succ d ih =>
  intro i ys hi hl ht; apply Ev.succ; simp only [laws_toInt64SS.l0]; refine Ev.pos (by omega) ?_; refine Ev.pos (by omega) ?_; rw [rd4_nat l i (by omega)]; refine Ev.bind (toInt64S_ev _ (hr _ (List.getElem_mem _))) ?_; refine Ev.pos (by omega) ?_; rw [w64 (by omega) (by omega), Int.toNat_natCast]; exact ih (i + 1) (ys.set i l[i]) (by omega) (by simp [hl]) (set_take l ys i _ (List.getElem?_eq_getElem (by omega)) hl ht)
theorem toInt64SS_ev (l : List (List Int)) (hn : l.length ≤ 11728124029610) (hr : ∀ x ∈ l, x.length ≤ 35184372088832) : Ev (fun k => laws_toInt64SS.f k l) l := by
 unfold laws_toInt64SS.f; simp only [Int.toNat_natCast]; refine Ev.pos (by omega) ?_; refine Ev.pos (by omega) ?_; exact toInt64SS_l l (by omega) hr l.length 0 _ (by omega) (by simp) (by simp)
theorem eqBoolS_l (l : List Bool) (hn : l.length ≤ 35184372088832) (d : Nat) : ∀ (i : Nat), i + d = l.length → Ev (fun k => laws_eqBoolS.l0 k l l (i : Int)) true := by
 induction d with
 | zero =>
  intro i hi; apply Ev.succ; simp only [laws_eqBoolS.l0]; refine Ev.neg (by omega) ?_; exact Ev.const rfl
 | succ d ih =>
  intro i hi; apply Ev.succ; simp only [laws_eqBoolS.l0]; refine Ev.pos (by omega) ?_; refine Ev.pos (by omega) ?_; refine Ev.pos (by omega) ?_; refine Ev.neg (by simp) ?_; rw [w64 (by omega) (by omega)]; exact ih (i + 1) (by omega)
theorem eqBoolS_ev (l : List Bool) (hn : l.length ≤ 35184372088832) : Ev (fun k => laws_eqBoolS.f k l l) true := by
 unfold laws_eqBoolS.f; refine Ev.pos rfl ?_; exact eqBoolS_l l hn l.length 0 (by omega)
theorem eqInt64SS_l (l : List (List Int)) (hn : l.length ≤ 35184372088832) (hr : ∀ x ∈ l, x.length ≤ 35184372088832) (d : Nat) : ∀ (i : Nat), i + d = l.length → Ev (fun k => laws_eqInt64SS.l0 k l l (i : Int)) true := by
 induction d with
 | zero =>
  intro i hi; apply Ev.succ; simp only [laws_eqInt64SS.l0]; refine Ev.neg (by omega) ?_; exact Ev.const rfl
 | succ d ih =>
  intro i hi; apply Ev.succ; simp only [laws_eqInt64SS.l0]; refine Ev.pos (by omega) ?_; refine Ev.pos (by omega) ?_; refine Ev.pos (by omega) ?_; rw [rd4_nat l i (by omega)]; refine Ev.bind (eqInt64S_ev _ (hr _ (List.getElem_mem _))) ?_; refine Ev.pos rfl ?_; rw [w64 (by omega) (by omega)]; exact ih (i + 1) (by omega)
theorem eqInt64SS_ev (l : List (List Int)) (hn : l.length ≤ 35184372088832) (hr : ∀ x ∈ l, x.length ≤ 35184372088832) : Ev (fun k => laws_eqInt64SS.f k l l) true := by
 unfold laws_eqInt64SS.f; refine Ev.pos rfl ?_; exact eqInt64SS_l l hn hr l.length 0 (by omega)
theorem szInt64SS_l (l : List (List Int)) (hn : l.length ≤ 9223372036854775806) (hr : ∀ x ∈ l, x.length ≤ 9223372036854775807) (d : Nat) : ∀ (i a : Nat), i + d = l.length → a ≤ 1048576 →
  ∃ n : Int, Ev (fun k => laws_szInt64SS.l0 k l (a : Int) (i : Int)) n ∧ n ≤ 1048576 ∧ (0 ≤ n → ∀ j, i ≤ j → ∀ x, l[j]? = some x → x.length ≤ 1048576) := by
 induction d with
 | zero =>
  intro i a hi ha; refine ⟨a, ?_, by omega, fun _ j hj x hx => ?_⟩
  ·apply Ev.succ; simp only [laws_szInt64SS.l0]; refine Ev.neg (by omega) ?_; exact Ev.const rfl
  ·have := (List.getElem?_eq_some_iff.1 hx).1; omega
 | succ d ih =>
  intro i a hi ha; have hx := hr _ (List.getElem_mem (show i < l.length by omega)); by_cases c : l[i].length ≤ a
  ·obtain ⟨n, h1, h2, h3⟩ := ih (i + 1) (a - l[i].length) (by omega) (by omega); refine ⟨n, ?_, h2, fun h0 j hj x hjx => ?_⟩
   ·apply Ev.succ; simp only [laws_szInt64SS.l0]; refine Ev.pos (by omega) ?_; refine Ev.pos (by omega) ?_; rw [rd4_nat l i (by omega)]; refine Ev.bind (a := ((a - l[i].length : Nat) : Int)) ?_ ?_
    ·unfold laws_szInt64S.f; rw [w64 (by omega) (by omega)]; refine Ev.neg (by omega) ?_; exact Ev.const (by congr 1; omega)
    ·refine Ev.neg (by omega) ?_; rw [w64 (by omega) (by omega)]; exact h1
   ·by_cases e : i = j
    ·subst e; rw [List.getElem?_eq_getElem (by omega)] at hjx; injection hjx with hjx; subst hjx; omega
    ·exact h3 h0 j (by omega) x hjx
  ·refine ⟨-1, ?_, by omega, fun h0 => by omega⟩; apply Ev.succ; simp only [laws_szInt64SS.l0]; refine Ev.pos (by omega) ?_; refine Ev.pos (by omega) ?_; rw [rd4_nat l i (by omega)]; refine Ev.bind (a := -1) ?_ ?_
   ·unfold laws_szInt64S.f; rw [w64 (by omega) (by omega)]; exact Ev.pos (by omega) (Ev.const rfl)
   ·exact Ev.pos (by omega) (Ev.const rfl)
/-- What a relation's size says: it is not negative only if its rows are short. -/
def SzOK (ac : List Bool) (ns : List (List Int)) : Prop := ac.length ≤ 1048576 ∧ ns.length ≤ 1048576 ∧ ∀ x ∈ ns, x.length ≤ 1048576
theorem szRelation_ev (t s : Int) (ac : List Bool) (ns : List (List Int)) (a : Nat) (ha : a ≤ 1048576) (h2 : ac.length ≤ 9223372036854775807) (h3 : ns.length ≤ 9223372036854775807) (hr : ∀ x ∈ ns, x.length ≤ 9223372036854775807) :
  ∃ n : Int, Ev (fun k => laws_szRelation.f k t s ac ns (a : Int)) n ∧ n ≤ 1048576 ∧ (0 ≤ n → SzOK ac ns) := by
 unfold laws_szRelation.f; by_cases c : ac.length ≤ a
 ·by_cases c2 : ns.length ≤ a - ac.length
  ·obtain ⟨n, e1, e2, e3⟩ := szInt64SS_l ns (by omega) hr ns.length 0 (a - ac.length - ns.length) (by omega) (by omega); refine ⟨if n < 0 then -1 else n, ?_, by split <;> omega, fun h0 => ⟨by omega, by omega, fun x hx => ?_⟩⟩
   ·refine Ev.bind (a := ((a - ac.length : Nat) : Int)) ?_ ?_
    ·unfold laws_szBoolS.f; rw [w64 (by omega) (by omega)]; refine Ev.neg (by omega) ?_; exact Ev.const (by congr 1; omega)
    ·refine Ev.neg (by omega) ?_; refine Ev.bind (a := n) ?_ ?_
     ·unfold laws_szInt64SS.f; rw [w64 (by omega) (by omega)]; refine Ev.neg (by omega) ?_; rw [show ((a - ac.length : Nat) : Int) - (ns.length : Int) = ((a - ac.length - ns.length : Nat) : Int) by omega]; exact e1
     ·by_cases hn : n < 0
      ·simp only [if_pos hn]; exact Ev.now _
      ·simp only [if_neg hn]; exact Ev.now _
   ·have hn : 0 ≤ n := by
     by_cases hn : n < 0
     ·rw [if_pos hn] at h0; omega
     ·omega
    obtain ⟨j, hj⟩ := List.mem_iff_getElem?.1 hx; exact e3 hn j (by omega) x hj
  ·refine ⟨-1, ?_, by omega, fun h0 => by omega⟩; refine Ev.bind (a := ((a - ac.length : Nat) : Int)) ?_ ?_
   ·unfold laws_szBoolS.f; rw [w64 (by omega) (by omega)]; refine Ev.neg (by omega) ?_; exact Ev.const (by congr 1; omega)
   ·refine Ev.neg (by omega) ?_; refine Ev.bind (a := -1) ?_ ?_
    ·unfold laws_szInt64SS.f; rw [w64 (by omega) (by omega)]; exact Ev.pos (by omega) (Ev.const rfl)
    ·exact Ev.pos (by omega) (Ev.const rfl)
 ·refine ⟨-1, ?_, by omega, fun h0 => by omega⟩; refine Ev.bind (a := -1) ?_ ?_
  ·unfold laws_szBoolS.f; rw [w64 (by omega) (by omega)]; exact Ev.pos (by omega) (Ev.const rfl)
  ·exact Ev.pos (by omega) (Ev.const rfl)
theorem toRelation_ev (t s : Int) (ac : List Bool) (ns : List (List Int)) (h : SzOK ac ns) : Ev (fun k => laws_toRelation.f k t s ac ns) (t, s, ac, ns) := by
 unfold laws_toRelation.f; refine Ev.bind (toBoolS_ev ac (by have := h.1; omega)) ?_; refine Ev.bind (toInt64SS_ev ns (by have := h.2.1; omega) (fun x hx => by have := h.2.2 x hx; omega)) ?_; exact Ev.now _
theorem eqRelation_ev (t s : Int) (ac : List Bool) (ns : List (List Int)) (h : SzOK ac ns) : Ev (fun k => laws_eqRelation.f k t s ac ns t s ac ns) true := by
 unfold laws_eqRelation.f; refine Ev.pos rfl ?_; refine Ev.pos rfl ?_; refine Ev.bind (eqBoolS_ev ac (by have := h.1; omega)) ?_; refine Ev.pos rfl ?_; refine Ev.bind (eqInt64SS_ev ns (by have := h.2.1; omega) (fun x hx => by have := h.2.2 x hx; omega)) ?_; exact Ev.pos rfl (Ev.now _)
theorem in_eq (a b c : Int) : spec_l00In.f a b c = some (decide (b ≤ a) && decide (a ≤ c)) := by
 unfold spec_l00In.f; by_cases h : a ≥ b
 ·rw [if_pos h]; simp [h]
 ·rw [if_neg h]; simp [show ¬ b ≤ a from h]
theorem within_eq (a b c : Int) : impl_within.f a b c = some (decide (b ≤ a) && decide (a ≤ c)) := by
 unfold impl_within.f; by_cases h : b ≤ a
 ·rw [if_pos h]; simp [h]
 ·rw [if_neg h]; simp [h]
theorem areTapes_eq (a : Int) : impl_areTapes.f a = some (decide (1 ≤ a) && decide (a ≤ 3)) := by
 unfold impl_areTapes.f; rw [within_eq]; rfl
def wd (n : Nat) : Nat := if n = 0 then 0 else if n = 1 then 2 else if n = 2 then 8 else 26
theorem wideS_fin : ∀ n : Fin 4, spec_l01Wide.f 10 (n.val : Int) = some ((wd n.val : Nat) : Int) := by decide +kernel
theorem wideI_fin : ∀ n : Fin 4, impl_widthOf.f 10 (n.val : Int) = some ((wd n.val : Nat) : Int) := by decide +kernel
theorem wideS_ev (n : Nat) (h : n ≤ 3) : Ev (fun k => spec_l01Wide.f k (n : Int)) ((wd n : Nat) : Int) := Ev.of (fun k => spec_l01Wide.mono _ k) (wideS_fin ⟨n, by omega⟩)
theorem wideI_ev (n : Nat) (h : n ≤ 3) : Ev (fun k => impl_widthOf.f k (n : Int)) ((wd n : Nat) : Int) := Ev.of (fun k => impl_widthOf.mono _ k) (wideI_fin ⟨n, by omega⟩)
theorem wd_le (n : Nat) (h : n ≤ 3) : wd n ≤ 26 := by
 unfold wd
 split <;> (try split) <;> (try split) <;> omega
/-- The states of a row are among n. -/
def okCells (n : Nat) (l : List Int) : Bool := l.all fun x => decide (0 ≤ x) && decide (x < n)
def okRows (w n : Nat) (ns : List (List Int)) : Bool := ns.all fun r => decide (r.length = w) && okCells n r
/-- A relation's form. -/
def okRel (t s : Int) (ac : List Bool) (ns : List (List Int)) : Bool :=
 decide (1 ≤ t) && decide (t ≤ 3) && decide (1 ≤ ac.length) && decide (ac.length ≤ 150) && decide (ns.length = ac.length) && decide (0 ≤ s) && decide (s < ac.length) && okRows (wd t.toNat) ac.length ns
theorem drop_all {α : Type} (p : α → Bool) (l : List α) (i : Nat) (h : i < l.length) : (l.drop i).all p = (p l[i] && (l.drop (i + 1)).all p) := by
 rw [List.drop_eq_getElem_cons h, List.all_cons]
theorem spec_form_l1 (t : Nat) (s : Int) (ac : List Bool) (ns : List (List Int)) (x3 : Nat) (hx3 : x3 ≤ 150) (i : Nat) (hi : i < ns.length) (hl : ns[i].length ≤ 26) (R : Bool)
  (hR : Ev (fun k => spec_l01Form.l0 k (x3 : Int) (((i : Nat) + 1 : Nat) : Int) (t : Int) s ac ns) (R, (t : Int), s)) (hni : ns.length ≤ 1048576) (d : Nat) : ∀ j, j + d = ns[i].length →
  Ev (fun k => spec_l01Form.l1 k (x3 : Int) (i : Int) (j : Int) (t : Int) s ac ns) (okCells x3 (ns[i].drop j) && R, (t : Int), s) := by
 induction d with
 | zero =>
  intro j hj; apply Ev.succ; simp only [spec_l01Form.l1]; refine Ev.pos (by omega) ?_; refine Ev.pos (by omega) ?_; rw [rd4_nat ns i hi]; refine Ev.neg (by omega) ?_; rw [w64 (by omega) (by omega), List.drop_of_length_le (by omega)]; simp only [okCells, List.all_nil, Bool.true_and]; exact hR
 | succ d ih =>
  intro j hj; apply Ev.succ; simp only [spec_l01Form.l1]; refine Ev.pos (by omega) ?_; refine Ev.pos (by omega) ?_; rw [rd4_nat ns i hi]; refine Ev.pos (by omega) ?_; refine Ev.pos (by omega) ?_; rw [rd_nat _ _ (by omega)]; refine Ev.bind (Ev.const (in_eq _ _ _)) ?_; rw [show okCells x3 (ns[i].drop j) = ((decide (0 ≤ ns[i][j]) && decide (ns[i][j] < x3)) && okCells x3 (ns[i].drop (j + 1))) from drop_all _ _ _ (by omega)]; rw [w64 (n := (x3 : Int) - 1) (by omega) (by omega)]; rw [show decide (ns[i][j] ≤ (x3 : Int) - 1) = decide (ns[i][j] < (x3 : Int)) by apply decide_eq_decide.2; omega]; by_cases c : (decide (0 ≤ ns[i][j]) && decide (ns[i][j] < (x3 : Int))) = true
  ·rw [c]; refine Ev.pos (by first | rfl | trivial) ?_; rw [w64 (by omega) (by omega)]; simp only [Bool.true_and]; exact ih (j + 1) (by omega)
  ·rw [Bool.not_eq_true] at c; rw [c]; exact Ev.neg (by simp) (Ev.const (by simp))
theorem spec_form_l0 (t : Nat) (ht : t ≤ 3) (s : Int) (ac : List Bool) (ns : List (List Int)) (x3 : Nat) (hx3 : x3 ≤ 150) (hni : ns.length ≤ 1048576) (d : Nat) : ∀ i, i + d = ns.length →
  Ev (fun k => spec_l01Form.l0 k (x3 : Int) (i : Int) (t : Int) s ac ns) (okRows (wd t) x3 (ns.drop i), (t : Int), s) := by
 induction d with
 | zero =>
  intro i hi; apply Ev.succ; simp only [spec_l01Form.l0]; refine Ev.neg (by omega) ?_; rw [List.drop_of_length_le (by omega)]; exact Ev.const rfl
 | succ d ih =>
  intro i hi; apply Ev.succ; simp only [spec_l01Form.l0]; refine Ev.pos (by omega) ?_; refine Ev.pos (by omega) ?_; rw [rd4_nat ns i (by omega)]; refine Ev.bind (wideS_ev t ht) ?_; rw [show okRows (wd t) x3 (ns.drop i) = ((decide (ns[i].length = wd t) && okCells x3 ns[i]) && okRows (wd t) x3 (ns.drop (i + 1))) from drop_all _ _ _ (by omega)]; have := wd_le t ht; by_cases c : ns[i].length = wd t
  ·refine Ev.pos (by omega) ?_; have h := spec_form_l1 t s ac ns x3 hx3 i (by omega) (by omega) _ (ih (i + 1) (by omega)) hni ns[i].length 0 (by omega); rw [List.drop_zero] at h; simp only [c, decide_true, Bool.true_and]; exact h
  ·refine Ev.neg (by omega) ?_; simp only [c, decide_false, Bool.false_and]; exact Ev.const rfl
theorem spec_ok_ev (t s : Int) (ac : List Bool) (ns : List (List Int)) (h : SzOK ac ns) : Ev (fun k => spec_l01Ok.f k t s ac ns) (okRel t s ac ns, t, s) := by
 unfold spec_l01Ok.f; have h1 := h.1; by_cases c : ac.length ≤ 150
 ·refine Ev.pos (by omega) ?_; refine Ev.bind (a := (okRel t s ac ns, t, s)) ?_ (Ev.now _); unfold spec_l01Form.f; refine Ev.bind (Ev.const (in_eq _ _ _)) ?_; by_cases ct : 1 ≤ t ∧ t ≤ 3
  ·obtain ⟨n, rfl⟩ : ∃ n : Nat, t = n := ⟨t.toNat, by omega⟩; simp only [show decide ((1 : Int) ≤ n) = true by simpa using ct.1, show decide ((n : Int) ≤ 3) = true by simpa using ct.2, Bool.true_and]; refine Ev.pos (by first | rfl | trivial) ?_; by_cases c1 : ac.length < 1
   ·refine Ev.pos (by omega) ?_; apply Ev.succ; simp only [spec_l01Form.j0]; refine Ev.pos (by first | rfl | trivial) ?_; refine Ev.const ?_; simp [okRel, show ¬ 1 ≤ ac.length by omega]
   ·refine Ev.neg (by omega) ?_; refine Ev.bind (Ev.const (in_eq _ _ _)) ?_; rw [w64 (n := (ac.length : Int) - 1) (by omega) (by omega)]; by_cases cs : 0 ≤ s ∧ s < ac.length
    ·simp only [show decide ((0 : Int) ≤ s) = true by simpa using cs.1, show decide (s ≤ (ac.length : Int) - 1) = true from decide_eq_true (by omega), Bool.true_and]; refine Ev.pos (by first | rfl | trivial) ?_; apply Ev.succ; simp only [spec_l01Form.j0]; by_cases cn : ns.length = ac.length
     ·refine Ev.neg (by simp [cn]) ?_; have h0 := spec_form_l0 n (by omega) s ac ns ac.length c (by have := h.2.1; omega) ns.length 0 (by omega); rw [List.drop_zero] at h0
      have e : okRel (n : Int) s ac ns = okRows (wd n) ac.length ns := by
       simp only [okRel, Int.toNat_natCast]; simp only [show decide ((1 : Int) ≤ n) = true by simpa using ct.1, show decide ((n : Int) ≤ 3) = true by simpa using ct.2, show decide (1 ≤ ac.length) = true from decide_eq_true (by omega), show decide (ac.length ≤ 150) = true from decide_eq_true c, cn, show decide ((0 : Int) ≤ s) = true by simpa using cs.1, show decide (s < (ac.length : Int)) = true from decide_eq_true cs.2, decide_true, Bool.true_and]
      rw [e]; exact h0
     ·refine Ev.pos (by simpa using fun e => cn (by omega)) ?_; refine Ev.const ?_; simp [okRel, cn]
    ·refine Ev.neg ?_ ?_
     ·intro e; rw [Bool.and_eq_true, decide_eq_true_eq, decide_eq_true_eq] at e; exact cs ⟨e.1, by omega⟩
     ·apply Ev.succ; simp only [spec_l01Form.j0]; refine Ev.pos (by first | rfl | trivial) ?_; refine Ev.const ?_
      have : (decide (0 ≤ s) && decide (s < (ac.length : Int))) = false := by
       rw [Bool.eq_false_iff]; intro e; rw [Bool.and_eq_true, decide_eq_true_eq, decide_eq_true_eq] at e; exact cs e
      congr 2
      simp only [okRel]
      rcases Bool.and_eq_false_iff.1 this with e | e <;> rw [e] <;> simp
  ·have e : (decide (1 ≤ t) && decide (t ≤ 3)) = false := by
    rw [Bool.eq_false_iff]; intro e; rw [Bool.and_eq_true, decide_eq_true_eq, decide_eq_true_eq] at e; exact ct e
   rw [e]; refine Ev.neg (by simp) ?_; apply Ev.succ; simp only [spec_l01Form.j0]; refine Ev.pos (by first | rfl | trivial) ?_; refine Ev.const ?_; simp [okRel, e]
 ·refine Ev.neg (by omega) ?_; refine Ev.const ?_; simp [okRel, c]
theorem impl_l1 (t : Nat) (s : Int) (ac : List Bool) (ns : List (List Int)) (x3 : Nat) (hx3 : x3 ≤ 150) (i : Nat) (hni : i < 1048576) (l : List Int) (hl : l.length ≤ 26) (R : Bool)
  (hR : Ev (fun k => impl_ValidRelation.l0 k (x3 : Int) ns (ns.length : Int) (((i : Nat) + 1 : Nat) : Int) (t : Int) s ac ns) R) (d : Nat) : ∀ j, j + d = l.length →
  Ev (fun k => impl_ValidRelation.l1 k (x3 : Int) ns (ns.length : Int) (i : Int) l (l.length : Int) (j : Int) (t : Int) s ac ns) (okCells x3 (l.drop j) && R) := by
 induction d with
 | zero =>
  intro j hj; apply Ev.succ; simp only [impl_ValidRelation.l1]; refine Ev.neg (by omega) ?_; rw [w64 (by omega) (by omega), List.drop_of_length_le (by omega)]; simp only [okCells, List.all_nil, Bool.true_and]; exact hR
 | succ d ih =>
  intro j hj; apply Ev.succ; simp only [impl_ValidRelation.l1]; refine Ev.pos (by omega) ?_; refine Ev.pos (by omega) ?_; refine Ev.pos (by omega) ?_; rw [rd_nat _ _ (by omega)]; refine Ev.bind (Ev.const (within_eq _ _ _)) ?_; rw [show okCells x3 (l.drop j) = ((decide (0 ≤ l[j]) && decide (l[j] < x3)) && okCells x3 (l.drop (j + 1))) from drop_all _ _ _ (by omega)]; rw [w64 (n := (x3 : Int) - 1) (by omega) (by omega)]; rw [show decide (l[j] ≤ (x3 : Int) - 1) = decide (l[j] < (x3 : Int)) by apply decide_eq_decide.2; omega]; by_cases c : (decide (0 ≤ l[j]) && decide (l[j] < (x3 : Int))) = true
  ·rw [c]; refine Ev.pos (by first | rfl | trivial) ?_; rw [w64 (by omega) (by omega)]; simp only [Bool.true_and]; exact ih (j + 1) (by omega)
  ·rw [Bool.not_eq_true] at c; rw [c]; exact Ev.neg (by simp) (Ev.const (by simp))
theorem impl_l0 (t : Nat) (ht : t ≤ 3) (s : Int) (ac : List Bool) (ns : List (List Int)) (x3 : Nat) (hx3 : x3 ≤ 150) (hni : ns.length ≤ 1048576) (d : Nat) : ∀ i, i + d = ns.length →
  Ev (fun k => impl_ValidRelation.l0 k (x3 : Int) ns (ns.length : Int) (i : Int) (t : Int) s ac ns) (okRows (wd t) x3 (ns.drop i)) := by
 induction d with
 | zero =>
  intro i hi; apply Ev.succ; simp only [impl_ValidRelation.l0]; refine Ev.neg (by omega) ?_; rw [List.drop_of_length_le (by omega)]; exact Ev.const rfl
 | succ d ih =>
  intro i hi; apply Ev.succ; simp only [impl_ValidRelation.l0]; refine Ev.pos (by omega) ?_; refine Ev.pos (by omega) ?_; refine Ev.pos (by omega) ?_; rw [rd4_nat ns i (by omega)]; refine Ev.bind (wideI_ev t ht) ?_; rw [show okRows (wd t) x3 (ns.drop i) = ((decide (ns[i].length = wd t) && okCells x3 ns[i]) && okRows (wd t) x3 (ns.drop (i + 1))) from drop_all _ _ _ (by omega)]; have := wd_le t ht; by_cases c : ns[i].length = wd t
  ·refine Ev.pos (by omega) ?_; have h := impl_l1 t s ac ns x3 hx3 i (by omega) ns[i] (by omega) _ (ih (i + 1) (by omega)) ns[i].length 0 (by omega); rw [List.drop_zero] at h; simp only [c, decide_true, Bool.true_and]; rw [c] at h; exact h
  ·refine Ev.neg (by omega) ?_; simp only [c, decide_false, Bool.false_and]; exact Ev.const rfl
theorem impl_ValidRelation_ev (t s : Int) (ac : List Bool) (ns : List (List Int)) (h : SzOK ac ns) : Ev (fun k => impl_ValidRelation.f k t s ac ns) (okRel t s ac ns) := by
 have hj0 : ∀ n : Int, Ev (fun k => impl_ValidRelation.j0 k n true t s ac ns) false := fun n => by
  apply Ev.succ; simp only [impl_ValidRelation.j0]; exact Ev.pos (by first | rfl | trivial) (Ev.const rfl)
 have h1 := h.1; unfold impl_ValidRelation.f; refine Ev.bind (Ev.const (areTapes_eq _)) ?_; by_cases ct : 1 ≤ t ∧ t ≤ 3
 ·obtain ⟨n, rfl⟩ : ∃ n : Nat, t = n := ⟨t.toNat, by omega⟩; simp only [show decide ((1 : Int) ≤ n) = true by simpa using ct.1, show decide ((n : Int) ≤ 3) = true by simpa using ct.2, Bool.true_and]; refine Ev.pos (by first | rfl | trivial) ?_; refine Ev.bind (Ev.const (within_eq _ _ _)) ?_; by_cases c1 : 1 ≤ ac.length ∧ ac.length ≤ 150
  ·refine Ev.pos (by simp; omega) ?_; by_cases cn : ns.length = ac.length
   ·refine Ev.pos (by omega) ?_; refine Ev.bind (Ev.const (within_eq _ _ _)) ?_; rw [w64 (n := (ac.length : Int) - 1) (by omega) (by omega)]; by_cases cs : 0 ≤ s ∧ s < ac.length
    ·simp only [show decide ((0 : Int) ≤ s) = true by simpa using cs.1, show decide (s ≤ (ac.length : Int) - 1) = true from decide_eq_true (by omega), Bool.true_and, Bool.not_true]; apply Ev.succ; simp only [impl_ValidRelation.j0]; refine Ev.neg (by simp) ?_; have h0 := impl_l0 n (by omega) s ac ns ac.length c1.2 (by have := h.2.1; omega) ns.length 0 (by omega); rw [List.drop_zero] at h0
     have e : okRel (n : Int) s ac ns = okRows (wd n) ac.length ns := by
      simp only [okRel, Int.toNat_natCast]; simp only [show decide ((1 : Int) ≤ n) = true by simpa using ct.1, show decide ((n : Int) ≤ 3) = true by simpa using ct.2, show decide (1 ≤ ac.length) = true from decide_eq_true (by omega), show decide (ac.length ≤ 150) = true from decide_eq_true c1.2, cn, show decide ((0 : Int) ≤ s) = true by simpa using cs.1, show decide (s < (ac.length : Int)) = true from decide_eq_true cs.2, decide_true, Bool.true_and]
     rw [e]; exact h0
    ·have e1 : (decide (0 ≤ s) && decide (s ≤ (ac.length : Int) - 1)) = false := by
      rw [Bool.eq_false_iff]; intro e; rw [Bool.and_eq_true, decide_eq_true_eq, decide_eq_true_eq] at e; exact cs ⟨e.1, by omega⟩
     have e2 : (decide (0 ≤ s) && decide (s < (ac.length : Int))) = false := by
      rw [Bool.eq_false_iff]; intro e; rw [Bool.and_eq_true, decide_eq_true_eq, decide_eq_true_eq] at e; exact cs e
     have e : okRel (n : Int) s ac ns = false := by
      simp only [okRel]
      rcases Bool.and_eq_false_iff.1 e2 with e | e <;> rw [e] <;> simp
     rw [e1, e]; exact hj0 _
   ·refine Ev.neg (by omega) ?_; (have e : okRel (n : Int) s ac ns = false := by simp [okRel, cn]); rw [e]; exact hj0 _
  ·refine Ev.neg ?_ ?_
   ·intro e; rw [Bool.and_eq_true, decide_eq_true_eq, decide_eq_true_eq] at e; exact c1 ⟨by omega, by omega⟩
   ·have e : okRel (n : Int) s ac ns = false := by
     simp only [okRel]; by_cases c2 : 1 ≤ ac.length
     ·simp [show ¬ ac.length ≤ 150 from fun h => c1 ⟨c2, h⟩]
     ·simp [c2]
    rw [e]; exact hj0 _
 ·have e : (decide (1 ≤ t) && decide (t ≤ 3)) = false := by
   rw [Bool.eq_false_iff]; intro e; rw [Bool.and_eq_true, decide_eq_true_eq, decide_eq_true_eq] at e; exact ct e
  rw [e]; refine Ev.neg (by simp) ?_; (have e : okRel t s ac ns = false := by simp [okRel, e]); rw [e]; exact hj0 _
/-- What a valid relation gives. -/
theorem okRel_parts {t s : Int} {ac : List Bool} {ns : List (List Int)} (h : okRel t s ac ns = true) : ∃ n : Nat, t = (n : Int) ∧ 1 ≤ n ∧ n ≤ 3 ∧ 1 ≤ ac.length ∧ ac.length ≤ 150 ∧ 0 ≤ s ∧ s < (ac.length : Int) ∧ TableOK (wd n) ac.length ns := by
 simp only [okRel, Bool.and_eq_true, decide_eq_true_eq] at h; obtain ⟨⟨⟨⟨⟨⟨⟨h1, h2⟩, h3⟩, h4⟩, h5⟩, h6⟩, h7⟩, h8⟩ := h; refine ⟨t.toNat, by omega, by omega, by omega, h3, h4, h6, h7, h5, fun row hrow => ?_⟩; simp only [okRows, List.all_eq_true, Bool.and_eq_true, decide_eq_true_eq, okCells] at h8; have := h8 row hrow; exact ⟨this.1, fun x hx => this.2 x hx⟩
def padsT (t : Nat) : List Int := (padsL 20 (t : Int) (wd t) 0 (List.replicate (wd t) 0)).getD []
theorem pads_fin : ∀ t : Fin 4, padsL 20 ((t.val : Nat) : Int) (wd t.val) 0 (List.replicate (wd t.val) 0) = some (padsT t.val) ∧ (padsT t.val).length = wd t.val ∧ ∀ x ∈ padsT t.val, 0 ≤ x ∧ x < 2 ^ t.val := by decide +kernel
def endedOk (t : Nat) : Bool := (List.range (2 ^ t)).all fun p => (List.range (wd t)).all fun c => spec_l01Ended.f 20 (t : Int) (p : Int) (c : Int) == some (endE (padsT t) (p : Int) (c : Int))
theorem ended_fin : ∀ t : Fin 4, endedOk t.val = true := by decide +kernel
theorem atk {α : Type} {g : Nat → Option α} {r : α} (hg : ∀ k, LeO (g k) (g (k + 1))) {k n : Nat} (hn : k ≤ n) (h : g k = some r) : g n = some r := at_rounds hg hn h
theorem ended_at {t : Nat} (ht : t ≤ 3) {k : Nat} (hk : 20 ≤ k) {p c : Int} (p0 : 0 ≤ p) (p1 : p < 2 ^ t) (c0 : 0 ≤ c) (c1 : c < (wd t : Int)) : spec_l01Ended.f k (t : Int) p c = some (endE (padsT t) p c) := by
 refine atk (k := 20) (fun k => spec_l01Ended.mono _ _ _ k) hk ?_; have h := ended_fin ⟨t, by omega⟩; simp only [endedOk, List.all_eq_true, List.mem_range, beq_iff_eq] at h
 have hp : p.toNat < 2 ^ t := by
  (have : ((2 ^ t : Nat) : Int) = 2 ^ t := by push_cast; rfl); omega
 have := h p.toNat hp c.toNat (by omega)
 rwa [show ((p.toNat : Nat) : Int) = p by omega, show ((c.toNat : Nat) : Int) = c by omega] at this
theorem size_le {n : Nat} (h1 : 1 ≤ n) (h3 : n ≤ 3) : (1 : Int) ≤ 2 ^ n ∧ (2 : Int) ^ n ≤ 8 ∧ (2 : Nat) ^ n ≤ 8 := by
 have : n = 1 ∨ n = 2 ∨ n = 3 := by omega
 rcases this with rfl | rfl | rfl <;> decide
/-- The tidy table of a relation's language. -/
def TidyIs (t : Nat) (s : Int) (ac : List Bool) (ns : List (List Int)) (r : List Bool × List (List Int)) : Prop := ∃ f, tidyD (wd t) f (lngR (wd t) (padsT t) ac ns (s, 0)) = some r
theorem impl_tidy_ev {n : Nat} {s : Int} {ac : List Bool} {ns : List (List Int)} (h1 : 1 ≤ n) (h3 : n ≤ 3) (hl : ac.length ≤ 2000) (s0 : 0 ≤ s) (s1 : s < (ac.length : Int)) (hT : TableOK (wd n) ac.length ns) :
  ∃ r, TidyIs n s ac ns r ∧ Ev (fun k => impl_machine_tidy.f k (n : Int) s ac ns) ((n : Int), 0, r.1, r.2) := by
 obtain ⟨q1, q2, q3⟩ := pads_fin ⟨n, by omega⟩; simp only at q1 q2 q3; obtain ⟨z1, z2, z3⟩ := size_le h1 h3; have hw := wd_le n h3; have law := fun (f : Nat) (hf : 1900002 ≤ f) => tidy_law hT rfl q2 (fun x hx => ⟨(q3 x hx).1, by have := (q3 x hx).2; omega⟩) (by omega) (by omega) s0 s1 hf; obtain ⟨p0, r, hp0, hpl0, hr0, hd0⟩ := law 1900002 (by omega); refine ⟨r, ⟨_, hd0⟩, 1900002, fun k hk => ?_⟩; obtain ⟨p, r', hp, hpl, hr, hd⟩ := law k hk; obtain rfl := tidyD_same hd0 hd; have hwid : impl_widthOf.f k (n : Int) = some ((wd n : Nat) : Int) := atk (k := 10) (fun k => impl_widthOf.mono _ k) (by omega) (wideI_fin ⟨n, by omega⟩); have hpad : padsL k (n : Int) (wd n) 0 (List.replicate (wd n) 0) = some (padsT n) := atk (k := 20) (fun k => padsL_mono k _ _ _ _) (by omega) q1; show impl_machine_tidy.f k (n : Int) s ac ns = _; unfold impl_machine_tidy.f; rw [hwid]; simp only [Option.bind_some, Int.toNat_natCast]; rw [if_pos ⟨by omega, by omega, by unfold good2 inI64; simp; omega⟩, hpad]; simp only [Option.bind_some]; rw [hp]; simp only [Option.bind_some]; rw [if_pos hpl, hr]; rfl
theorem spec_tidied_ev {n : Nat} {s : Int} {ac : List Bool} {ns : List (List Int)} (h1 : 1 ≤ n) (h3 : n ≤ 3) (hl : ac.length ≤ 2000) (s0 : 0 ≤ s) (s1 : s < (ac.length : Int)) (hT : TableOK (wd n) ac.length ns)
  {r : List Bool × List (List Int)} (hr : TidyIs n s ac ns r) : Ev (fun k => spec_l01Tidied.f k (n : Int) s ac ns) ((n : Int), 0, r.1, r.2, (n : Int), s) := by
 obtain ⟨f0, hd0⟩ := hr; obtain ⟨q1, q2, q3⟩ := pads_fin ⟨n, by omega⟩; simp only at q1 q2 q3; obtain ⟨z1, z2, z3⟩ := size_le h1 h3; have hw := wd_le n h3; refine ⟨1000000000, fun k hk => ?_⟩; have hN : ac.length * 2 ^ n ≤ 2000 * 8 := Nat.mul_le_mul hl z3
 have hs : SizeOK (wd n) ac.length (ac.length * 2 ^ n) (2 ^ n) (n : Int) k (padsT n) :=
  ⟨z1, z2, by push_cast; rfl, by omega, q2, q3, fun p c p0 p1 c0 c1 => ended_at h3 (by omega) p0 p1 c0 c1⟩
 obtain ⟨p, hp, hp0, hpl, hpT, hpL⟩ := rightF_law hs hT rfl s0 s1 (f := k) (by omega); have hb : p.1.length * (2 * p.1.length + wd n + 20) ≤ 16001 * 32048 := Nat.mul_le_mul (by omega) (by omega); obtain ⟨r', hr', hd'⟩ := tidiedF_law (t := (n : Int)) hpT rfl hp0 (by omega) (by omega) (k := k) (f := k) (by omega) (by omega); rw [hpL] at hd'; obtain rfl := tidyD_same hd0 hd'; have hwid : spec_l01Wide.f k (n : Int) = some ((wd n : Nat) : Int) := atk (k := 10) (fun k => spec_l01Wide.mono _ k) (by omega) (wideS_fin ⟨n, by omega⟩); show spec_l01Tidied.f k (n : Int) s ac ns = _; unfold spec_l01Tidied.f spec_l01Right.f; rw [hwid]; simp only [Option.bind_some, Int.toNat_natCast]; rw [if_pos ⟨by omega, by omega, by omega, by omega, by omega⟩, hp]; simp only [Option.bind_some]; rw [if_pos ⟨by omega, fun row hrow => by rw [(hpT.2 row hrow).1]; omega⟩, hr']; rfl
section
variable {K : Type} [DecidableEq K] {good : K → Bool} {acc : K → Option Bool} {next : K → Int → Option K} {W : Nat}
theorem growRow_met {nx : Int → Option K} : ∀ (m : Nat) (c : Int) (l : List K) (row : List Int) (l1 : List K) (row1 : List Int), growRow good nx m c l row = some (l1, row1) →
  ∃ e, row1 = row ++ e ∧ e.length = m ∧ l.length ≤ l1.length ∧ ∀ q : Nat, l.length ≤ q → q < l1.length → ∃ j : Nat, j < m ∧ e[j]? = some (q : Int) := by
 intro m
 induction m with
 | zero =>
  intro c l row l1 row1 h; simp only [growRow, Option.some.injEq, Prod.mk.injEq] at h; obtain ⟨rfl, rfl⟩ := h; exact ⟨[], by simp, rfl, Nat.le_refl _, fun q h1 h2 => by omega⟩
 | succ m ih =>
  intro c l row l1 row1 h; simp only [growRow] at h; obtain ⟨t, ht, h⟩ := oB h
  split at h
  ·split at h
   ·obtain ⟨e, he, hm, hl, hq⟩ := ih _ _ _ _ _ h; refine ⟨(l.idxOf t : Int) :: e, by simp [he], by simp [hm], hl, fun q h1 h2 => ?_⟩; obtain ⟨j, hj, hj2⟩ := hq q h1 h2; exact ⟨j + 1, by omega, by simpa using hj2⟩
   ·split at h
    ·obtain ⟨e, he, hm, hl, hq⟩ := ih _ _ _ _ _ h; rw [List.length_append, List.length_singleton] at hl hq; refine ⟨(l.length : Int) :: e, by simp [he], by simp [hm], by omega, fun q h1 h2 => ?_⟩; by_cases e0 : q = l.length
     ·exact ⟨0, by omega, by simp [e0]⟩
     ·obtain ⟨j, hj, hj2⟩ := hq q (by omega) h2; exact ⟨j + 1, by omega, by simpa using hj2⟩
    ·cases h
  ·cases h
def Met (W n : Nat) (rs : List (List Int)) : Prop := ∀ q : Nat, 1 ≤ q → q < n → ∃ (i : Nat) (row : List Int) (j : Nat), i < q ∧ rs[i]? = some row ∧ j < W ∧ row[j]? = some (q : Int)
theorem growL_met : ∀ (f : Nat) (l : List K) (bs : List Bool) (rs : List (List Int)) (r : List Bool × List (List Int)), rs.length = bs.length → bs.length ≤ l.length → Met W l.length rs → growL good acc next W f l bs rs = some r → Met W r.1.length r.2 := by
 intro f
 induction f with
 | zero => intro l bs rs r _ _ _ h; cases h
 | succ f ih =>
  intro l bs rs r hlen hle hM h; simp only [growL] at h
  split at h
  ·next e =>
   obtain rfl := Option.some.inj h; have := List.getElem?_eq_none_iff.1 e; (have e2 : bs.length = l.length := by omega)
   simpa [e2] using hM
  ·next k e =>
   have hi := (List.getElem?_eq_some_iff.1 e).1; obtain ⟨⟨l1, row1⟩, hrow, h⟩ := oB h; obtain ⟨a, ha, h⟩ := oB h; obtain ⟨e1, he1, hm, hl, hq⟩ := growRow_met _ _ _ _ _ _ hrow; rw [List.nil_append] at he1; subst he1; refine ih _ _ _ _ (by simp [hlen]) (by simp; omega) (fun q q1 q2 => ?_) h; by_cases c : q < l.length
   ·obtain ⟨i, row, j, h1, h2, h3, h4⟩ := hM q q1 c; exact ⟨i, row, j, h1, by rw [List.getElem?_append_left (List.getElem?_eq_some_iff.1 h2).1]; exact h2, h3, h4⟩
   ·obtain ⟨j, h3, h4⟩ := hq q (by omega) q2; exact ⟨bs.length, row1, j, by omega, by rw [← hlen]; simp, h3, h4⟩
end
/-- The form of a tidy table. -/
theorem tidyD_table {W f : Nat} {L : List Int → Bool} {r : List Bool × List (List Int)} (h : tidyD W f L = some r) : TableOK W r.1.length r.2 ∧ 0 < r.1.length ∧ r.1.length ≤ 1900000 ∧ Met W r.1.length r.2 := by
 classical
 unfold tidyD at h
 obtain ⟨h1, h2, h3, _⟩ := growL_table (S := fun _ => True) (Λ := fun (L : List Int → Bool) (w : List Int) => L w && w.all fun c => decide (0 ≤ c) && decide (c < (W : Int)))
  (fun k c t _ c0 c1 e => ⟨trivial, fun w => by obtain rfl := Option.some.inj e; simp [c0, c1]⟩) (fun k b _ e => by obtain rfl := Option.some.inj e; simp) (fun k c w hc => by
   by_cases c0 : 0 ≤ c
   ·have : ¬ c < (W : Int) := fun h => hc ⟨c0, h⟩; simp [this]
   ·simp [c0]) (start := L) trivial h
 exact ⟨h1, h2, h3, growL_met _ _ _ _ _ rfl (by simp) (fun q h1 h2 => by simp at h2; omega) h⟩
theorem clone_eq (l : List Bool) (h : l.length ≤ 1000000000) : slices_Clone_bool_bool.f l = some l := by
 unfold slices_Clone_bool_bool.f; simp; exact h
theorem machineOf_l0 (t s : Int) (ac : List Bool) (ns : List (List Int)) (hl : ns.length ≤ 1048576) (hr : ∀ x ∈ ns, x.length ≤ 1048576) (d : Nat) : ∀ i : Nat, i + d = ns.length → Ev (fun k => impl_machineOf.l0 k ns (ns.length : Int) (i : Int) t s ac (ns.take i)) (t, s, ac, ns) := by
 induction d with
 | zero =>
  intro i hi; apply Ev.succ; simp only [impl_machineOf.l0]; refine Ev.neg (by omega) (Ev.const ?_); rw [List.take_of_length_le (by omega)]
 | succ d ih =>
  intro i hi; apply Ev.succ; simp only [impl_machineOf.l0]; refine Ev.pos (by omega) (Ev.pos (by omega) (Ev.pos (by omega) ?_)); rw [rd4_nat ns i (by omega)]; have hri := hr _ (List.getElem_mem (show i < ns.length by omega))
  have inner : ∀ (e j : Nat), j + e = ns[i].length → Ev (fun k => impl_machineOf.l1 k (ns[i].take j) ns (ns.length : Int) (i : Int) ns[i] (ns[i].length : Int) (j : Int) t s ac (ns.take i)) (t, s, ac, ns) := by
   intro e
   induction e with
   | zero =>
    intro j hj; apply Ev.succ; simp only [impl_machineOf.l1]; refine Ev.neg (by omega) (Ev.pos (by simp; omega) ?_); rw [w64 (by omega) (by omega), show ns[i].take j = ns[i] from List.take_of_length_le (by omega), List.take_append_getElem (show i < ns.length by omega)]; exact ih (i + 1) (by omega)
   | succ e ihe =>
    intro j hj; apply Ev.succ; simp only [impl_machineOf.l1]; refine Ev.pos (by omega) (Ev.pos (by omega) (Ev.pos (by omega) (Ev.pos (by simp; omega) ?_))); rw [w64 (by omega) (by omega), rd_nat _ _ (by omega), List.take_append_getElem (by omega)]; exact ihe (j + 1) (by omega)
  exact inner ns[i].length 0 (by omega)
theorem machineOf_ev (t s : Int) (ac : List Bool) (ns : List (List Int)) (h : SzOK ac ns) : Ev (fun k => impl_machineOf.f k t s ac ns) (t, s, ac, ns) := by
 unfold impl_machineOf.f; exact Ev.bind (Ev.const (clone_eq ac (by have := h.1; omega))) (machineOf_l0 t s ac ns h.2.1 h.2.2 ns.length 0 (by omega))
theorem tidyOf_ev {n : Nat} {s : Int} {ac : List Bool} {ns : List (List Int)} {r : List Bool × List (List Int)} (h : SzOK ac ns) (hi : Ev (fun k => impl_machine_tidy.f k (n : Int) s ac ns) ((n : Int), 0, r.1, r.2)) : Ev (fun k => impl_tidyOf.f k (n : Int) s ac ns) ((n : Int), 0, r.1, r.2) := by
 unfold impl_tidyOf.f; exact Ev.bind (machineOf_ev _ s ac ns h) (Ev.bind hi (Ev.now _))
def inW (W : Nat) (w : List Int) : Bool := w.all fun c => decide (0 ≤ c) && decide (c < (W : Int))
def runT (ns : List (List Int)) : Int → List Int → Int
 | q, [] => q
 | q, c :: w => runT ns (stp ns q c) w
/-- Right columns behind the pads p. -/
def okW (W : Nat) (pads : List Int) : Int → List Int → Bool
 | p, [] => decide (0 ≤ p)
 | p, c :: w => decide (0 ≤ c) && (decide (c < (W : Int)) && (decide (0 ≤ p) && (decide (bits .andNot .i64 p (rd pads c) = 0) && okW W pads (rd pads c) w)))
theorem lngR_eq (W : Nat) (pads : List Int) (ac : List Bool) (ns : List (List Int)) : ∀ (w : List Int) (q p : Int), lngR W pads ac ns (q, p) w = (okW W pads p w && rdOf false ac (runT ns q w)) := by
 intro w
 induction w with
 | nil => intro q p; rfl
 | cons c w ih =>
  intro q p; simp only [lngR, okW, runT, ih]; simp only [Bool.and_assoc]
theorem lng_eq (W : Nat) (ac : List Bool) (ns : List (List Int)) : ∀ (w : List Int) (q : Int), lng W ac ns q w = (inW W w && rdOf false ac (runT ns q w)) := by
 intro w
 induction w with
 | nil => intro q; rfl
 | cons c w ih =>
  intro q; simp only [lng, inW, List.all_cons, runT, ih]; simp only [Bool.and_assoc, inW]
theorem runT_range {W n : Nat} {ns : List (List Int)} (hT : TableOK W n ns) : ∀ (w : List Int) (q : Int), inW W w = true → 0 ≤ q → q < (n : Int) → 0 ≤ runT ns q w ∧ runT ns q w < (n : Int) := by
 intro w
 induction w with
 | nil => intro q _ h0 h1; exact ⟨h0, h1⟩
 | cons c w ih =>
  intro q h h0 h1; simp only [inW, List.all_cons, Bool.and_eq_true, decide_eq_true_eq] at h; have := hT.stpd h0 h1 h.1.1 h.1.2; exact ih _ h.2 this.1 this.2
theorem tidyD_lng {W f : Nat} {L : List Int → Bool} {r : List Bool × List (List Int)} (h : tidyD W f L = some r) (w : List Int) : lng W r.1 r.2 0 w = (L w && inW W w) := by
 classical
 unfold tidyD at h
 obtain ⟨h1, h2, h3, h4⟩ := growL_table (S := fun _ => True) (Λ := fun (L : List Int → Bool) (w : List Int) => L w && w.all fun c => decide (0 ≤ c) && decide (c < (W : Int)))
  (fun k c t _ c0 c1 e => ⟨trivial, fun w => by obtain rfl := Option.some.inj e; simp [c0, c1]⟩) (fun k b _ e => by obtain rfl := Option.some.inj e; simp) (fun k c w hc => by
   by_cases c0 : 0 ≤ c
   ·have : ¬ c < (W : Int) := fun h => hc ⟨c0, h⟩; simp [this]
   ·simp [c0]) (start := L) trivial h
 rw [h4]; rfl
def lexl : List Int → List Int → Prop
 | a :: u, b :: v => a < b ∨ (a = b ∧ lexl u v)
 | _, _ => False
theorem lexl_irrefl : ∀ u, ¬ lexl u u := by
 intro u
 induction u with
 | nil => simp [lexl]
 | cons a u ih => simp [lexl, ih]
theorem lexl_trans : ∀ u v w, lexl u v → lexl v w → lexl u w := by
 intro u
 induction u with
 | nil => intro v w h; simp [lexl] at h
 | cons a u ih =>
  intro v w h1 h2
  cases v with
  | nil => simp [lexl] at h1
  | cons b v =>
   cases w with
   | nil => simp [lexl] at h2
   | cons c w =>
    simp only [lexl] at h1 h2 ⊢
    rcases h1 with h1 | ⟨h1, h1'⟩ <;> rcases h2 with h2 | ⟨h2, h2'⟩
    ·left; omega
    ·left; omega
    ·left; omega
    ·right; exact ⟨by omega, ih _ _ h1' h2'⟩
def llt (u v : List Int) : Prop := u.length < v.length ∨ (u.length = v.length ∧ lexl u v)
def lle (u v : List Int) : Prop := u = v ∨ llt u v
theorem llt_irrefl (u : List Int) : ¬ llt u u := by
 rintro (h | ⟨_, h⟩)
 ·omega
 ·exact lexl_irrefl u h
theorem llt_trans {u v w : List Int} (h1 : llt u v) (h2 : llt v w) : llt u w := by
 rcases h1 with h1 | ⟨h1, h1'⟩ <;> rcases h2 with h2 | ⟨h2, h2'⟩
 ·exact .inl (by omega)
 ·exact .inl (by omega)
 ·exact .inl (by omega)
 ·exact .inr ⟨by omega, lexl_trans _ _ _ h1' h2'⟩
theorem lle_anti {u v : List Int} (h1 : lle u v) (h2 : lle v u) : u = v := by
 rcases h1 with h1 | h1
 ·exact h1
 ·rcases h2 with h2 | h2
  ·exact h2.symm
  ·exact absurd (llt_trans h1 h2) (llt_irrefl u)
/-- The first of the lists that are taken. -/
def Least (A : List Int → Prop) (w : List Int) : Prop := A w ∧ ∀ w', A w' → lle w w'
theorem Least.same {A : List Int → Prop} {u v : List Int} (h : Least A u) (h' : Least A v) : u = v := lle_anti (h.2 v h'.1) (h'.2 u h.1)
section
variable {W n : Nat} {ac : List Bool} {ns : List (List Int)}
/-- A list of columns is taken from a state. -/
def Tk (W : Nat) (ac : List Bool) (ns : List (List Int)) (q : Int) (u : List Int) : Prop := inW W u = true ∧ rdOf false ac (runT ns q u) = true
theorem Tk.cons {q c : Int} {u : List Int} : Tk W ac ns q (c :: u) ↔ (0 ≤ c ∧ c < (W : Int)) ∧ Tk W ac ns (stp ns q c) u := by
 unfold Tk; simp only [inW, List.all_cons, Bool.and_eq_true, decide_eq_true_eq, runT]; exact ⟨fun ⟨⟨a, b⟩, c⟩ => ⟨a, b, c⟩, fun ⟨a, b, c⟩ => ⟨⟨a, b⟩, c⟩⟩
def Dist (W : Nat) (ac : List Bool) (ns : List (List Int)) (q : Int) (d : Nat) : Prop := (∃ u, u.length = d ∧ Tk W ac ns q u) ∧ ∀ u, Tk W ac ns q u → d ≤ u.length
theorem Dist.same {q : Int} {d e : Nat} (h : Dist W ac ns q d) (h' : Dist W ac ns q e) : d = e := by
 obtain ⟨⟨u, hu, tu⟩, h1⟩ := h; obtain ⟨⟨v, hv, tv⟩, h2⟩ := h'; have := h1 v tv; have := h2 u tu; omega
/-- What is known of a state when m rounds are over. -/
def FarAt (W : Nat) (ac : List Bool) (ns : List (List Int)) (m : Nat) (F : List Int) (q : Int) : Prop := (rd F q = -1 ∧ ∀ u, Tk W ac ns q u → m < u.length) ∨ ∃ d : Nat, d ≤ m ∧ rd F q = (d : Int) ∧ Dist W ac ns q d
theorem FarAt.test {m m' : Nat} {F : List Int} {q : Int} (h : FarAt W ac ns m' F q) (hm : m ≤ m') : rd F q = (m : Int) ↔ Dist W ac ns q m := by
 rcases h with ⟨h1, h2⟩ | ⟨d, hd, h1, h2⟩
 ·constructor
  ·intro h; omega
  ·rintro ⟨⟨u, hu, tu⟩, _⟩; have := h2 u tu; omega
 ·constructor
  ·intro h; (have : d = m := by omega); exact this ▸ h2
  ·intro h; rw [h1, h2.same h]
theorem FarAt.neg {m : Nat} {F : List Int} {q : Int} (h : FarAt W ac ns m F q) : ¬ 0 ≤ rd F q ↔ ∀ u, Tk W ac ns q u → m < u.length := by
 rcases h with ⟨h1, h2⟩ | ⟨d, hd, h1, ⟨u, hu, tu⟩, h2⟩
 ·exact ⟨fun _ => h2, fun _ => by omega⟩
 ·exact ⟨fun h => absurd (by omega) h, fun h => by have := h u tu; omega⟩
theorem far_step {q : Int} {m : Nat} (h : ∀ u, Tk W ac ns q u → m < u.length) : Dist W ac ns q (m + 1) ↔ ∃ c : Nat, c < W ∧ Dist W ac ns (stp ns q c) m := by
 constructor
 ·rintro ⟨⟨u, hu, tu⟩, h2⟩
  cases u with
  | nil => simp at hu
  | cons c u =>
   have ht := Tk.cons.1 tu; refine ⟨c.toNat, by omega, ⟨u, by simpa using hu, ?_⟩, fun v tv => ?_⟩
   ·rw [show ((c.toNat : Nat) : Int) = c by omega]; exact ht.2
   ·have := h2 (c :: v) (Tk.cons.2 ⟨ht.1, by rw [show ((c.toNat : Nat) : Int) = c by omega] at tv; exact tv⟩)
    simpa using this
 ·rintro ⟨c, hc, ⟨u, hu, tu⟩, h2⟩; exact ⟨⟨(c : Int) :: u, by simp [hu], Tk.cons.2 ⟨⟨by omega, by omega⟩, tu⟩⟩, fun v tv => h v tv⟩
/-- From a state from which something is taken, the nearest: no more columns than states. -/
theorem dist_bound (hT : TableOK W n ns) {d : Nat} : ∀ {q : Int}, 0 ≤ q → q < (n : Int) → Dist W ac ns q d → d < n := by
 have key : ∀ (d : Nat) (q : Int), 0 ≤ q → q < (n : Int) → Dist W ac ns q d → ∃ l : List Int, l.length = d + 1 ∧ (∀ v ∈ l, 0 ≤ v ∧ v < (n : Int)) ∧ ∀ (i : Nat) v, l[i]? = some v → Dist W ac ns v i := by
  intro d
  induction d with
  | zero => intro q q0 q1 h; exact ⟨[q], rfl, by simp; omega, fun i v hv => by cases i with | zero => simp at hv; subst hv; exact h | succ i => simp at hv⟩
  | succ d ih =>
   intro q q0 q1 h; obtain ⟨c, hc, h2⟩ := (far_step (fun u tu => by have := h.2 u tu; omega)).1 h; have hs := hT.stpd q0 q1 (c := (c : Int)) (by omega) (by omega); obtain ⟨l, hl, hr, hd⟩ := ih _ hs.1 hs.2 h2; refine ⟨l ++ [q], by simp [hl], fun v hv => ?_, fun i v hv => ?_⟩
   ·rcases List.mem_append.1 hv with hv | hv
    ·exact hr v hv
    ·simp at hv; subst hv; exact ⟨q0, q1⟩
   ·by_cases e : i < l.length
    ·rw [List.getElem?_append_left e] at hv; exact hd i v hv
    ·(have hi : i = l.length := by have := (List.getElem?_eq_some_iff.1 hv).1; simp at this; omega); subst hi; simp at hv; subst hv; rw [hl]; exact h
 intro q q0 q1 h; obtain ⟨l, hl, hr, hd⟩ := key d q q0 q1 h
 have hn : l.Nodup := by
  unfold List.Nodup; rw [List.pairwise_iff_getElem]; intro i j hi hj hij hv; have h1 := hd i _ (List.getElem?_eq_getElem hi); rw [hv] at h1; have := h1.same (hd j _ (List.getElem?_eq_getElem hj)); omega
 have := X.nodup_len l ((List.range n).map fun (i : Nat) => (i : Int)) hn (fun v hv => by
  have := hr v hv
  exact List.mem_map.2 ⟨v.toNat, by rw [List.mem_range]; omega, by omega⟩)
 simp at this; omega
theorem least_len {A : Nat → Prop} {m : Nat} (h : A m) : ∃ d, A d ∧ ∀ e, A e → d ≤ e := by
 classical
 induction m using Nat.strongRecOn with
 | _ m ih =>
  by_cases c : ∃ e, e < m ∧ A e
  ·obtain ⟨e, he, hA⟩ := c; exact ih e he hA
  ·exact ⟨m, h, fun e he => Nat.not_lt.1 fun hlt => c ⟨e, hlt, he⟩⟩
theorem dist_ex {q : Int} {u : List Int} (h : Tk W ac ns q u) : ∃ d, Dist W ac ns q d := by
 obtain ⟨d, ⟨v, hv, tv⟩, h2⟩ := least_len (A := fun m => ∃ v, v.length = m ∧ Tk W ac ns q v) ⟨u, rfl, h⟩; exact ⟨d, ⟨v, hv, tv⟩, fun w tw => h2 _ ⟨w, rfl, tw⟩⟩
/-- All rounds are over: -1 where nothing is taken. -/
def FarOK (W n : Nat) (ac : List Bool) (ns : List (List Int)) (F : List Int) : Prop := F.length = n ∧ ∀ q : Int, 0 ≤ q → q < (n : Int) → (rd F q = -1 ∧ ∀ u, ¬ Tk W ac ns q u) ∨ ∃ d : Nat, d < n ∧ rd F q = (d : Int) ∧ Dist W ac ns q d
theorem far_done (hT : TableOK W n ns) {F : List Int} (hl : F.length = n) (h : ∀ q : Int, 0 ≤ q → q < (n : Int) → FarAt W ac ns n F q) : FarOK W n ac ns F := by
 refine ⟨hl, fun q q0 q1 => ?_⟩
 rcases h q q0 q1 with ⟨h1, h2⟩ | ⟨d, hd, h1, h2⟩
 ·refine .inl ⟨h1, fun u tu => ?_⟩; obtain ⟨d, hD⟩ := dist_ex tu; have := dist_bound hT q0 q1 hD; obtain ⟨v, hv, tv⟩ := hD.1; have := h2 v tv; omega
 ·exact .inr ⟨d, dist_bound hT q0 q1 h2, h1, h2⟩
end
/-- What a tidy table takes is right. -/
theorem tidy_right {n : Nat} {s : Int} {ac : List Bool} {ns : List (List Int)} {r : List Bool × List (List Int)} (h : TidyIs n s ac ns r) {w : List Int} (hw : Tk (wd n) r.1 r.2 0 w) : okW (wd n) (padsT n) 0 w = true := by
 obtain ⟨f, h⟩ := h; have h1 := tidyD_lng h w; rw [lng_eq, hw.1, hw.2, lngR_eq] at h1; simp only [Bool.and_true, Bool.true_and] at h1; have := h1.symm; simp only [Bool.and_eq_true] at this; exact this.1
/-- A run that ends in something of which Φ holds. -/
def ResP {α : Type} (Φ : α → Prop) (g : Nat → Option α) : Prop := ∃ r, Ev g r ∧ Φ r
section
variable {α β : Type} {Φ : α → Prop}
theorem ResP.succ {g : Nat → Option α} (h : ResP Φ (fun k => g (k + 1))) : ResP Φ g := by
 obtain ⟨r, h1, h2⟩ := h; exact ⟨r, Ev.succ h1, h2⟩
theorem ResP.pos {c : Prop} [Decidable c] {f g : Nat → Option α} (hc : c) (h : ResP Φ f) : ResP Φ (fun k => if c then f k else g k) := by
 obtain ⟨r, h1, h2⟩ := h; exact ⟨r, Ev.pos hc h1, h2⟩
theorem ResP.neg {c : Prop} [Decidable c] {f g : Nat → Option α} (hc : ¬ c) (h : ResP Φ g) : ResP Φ (fun k => if c then f k else g k) := by
 obtain ⟨r, h1, h2⟩ := h; exact ⟨r, Ev.neg hc h1, h2⟩
theorem ResP.bind {f : Nat → Option β} {b : β} {g : β → Nat → Option α} (hf : Ev f b) (h : ResP Φ (g b)) : ResP Φ (fun k => (f k).bind fun x => g x k) := by
 obtain ⟨r, h1, h2⟩ := h; exact ⟨r, Ev.bind hf h1, h2⟩
end
theorem rd_set_at {l : List Int} {i : Nat} {x : Int} (h : i < l.length) : rd (l.set i x) (i : Int) = x := by
 simp [rd, List.getD_eq_getElem?_getD, List.getElem?_set, h]
theorem rd_set_ne {l : List Int} {i : Nat} {q x : Int} (q0 : 0 ≤ q) (h : q ≠ (i : Int)) : rd (l.set i x) q = rd l q := by
 (have : i ≠ q.toNat := by omega); simp [rd, List.getD_eq_getElem?_getD, List.getElem?_set, this]
section
variable {W n : Nat} {ac : List Bool} {ns : List (List Int)} {t s : Int}
theorem FarAt.set {m i : Nat} {F : List Int} {q x : Int} (h : FarAt W ac ns m F q) (q0 : 0 ≤ q) (hq : q ≠ (i : Int)) : FarAt W ac ns m (F.set i x) q := by
 unfold FarAt at h ⊢
 rw [rd_set_ne q0 hq]; exact h
theorem FarAt.up {m : Nat} {F : List Int} {q : Int} (h : FarAt W ac ns m F q) (h0 : 0 ≤ rd F q) : FarAt W ac ns (m + 1) F q := by
 rcases h with ⟨h1, h2⟩ | ⟨d, hd, h1, h2⟩
 ·omega
 ·exact .inr ⟨d, by omega, h1, h2⟩
/-- What is known within round m + 1, before row i. -/
def FarIn (W n : Nat) (ac : List Bool) (ns : List (List Int)) (m i : Nat) (F : List Int) : Prop := F.length = n ∧ (∀ q : Int, 0 ≤ q → q < (i : Int) → FarAt W ac ns (m + 1) F q) ∧ ∀ q : Int, (i : Int) ≤ q → q < (n : Int) → FarAt W ac ns m F q
theorem FarIn.test {m i : Nat} {F : List Int} (h : FarIn W n ac ns m i F) {q : Int} (q0 : 0 ≤ q) (q1 : q < (n : Int)) : rd F q = (m : Int) ↔ Dist W ac ns q m := by
 by_cases e : q < (i : Int)
 ·exact (h.2.1 q q0 e).test (by omega)
 ·exact (h.2.2 q (by omega) q1).test (Nat.le_refl _)
theorem far_l1 (hT : TableOK W n ns) (hn : ac.length = n) (hn2 : n ≤ 2000000) (hW : W ≤ 1000) : ∀ (e m : Nat) (F : List Int), m + e = n → FarIn W n ac ns m 0 F → ResP (FarOK W n ac ns) (fun k => impl_machine_far.l1 k F (((m + 1 : Nat) : Int)) t s ac ns) := by
 intro e
 induction e with
 | zero =>
  intro m F hm hF; refine ResP.succ ?_; simp only [impl_machine_far.l1]; (have : m = n := by omega); subst this; refine ResP.neg (by rw [hF.1]; omega) ⟨F, Ev.now _, far_done hT hF.1 (fun q q0 q1 => hF.2.2 q q0 q1)⟩
 | succ e ih =>
  intro m F hm hF; refine ResP.succ ?_; simp only [impl_machine_far.l1]; refine ResP.pos (by rw [hF.1]; omega) ?_; rw [hT.1]
  have rows : ∀ (d i : Nat) (F : List Int), i + d = n → FarIn W n ac ns m i F → ResP (FarOK W n ac ns) (fun k => impl_machine_far.l2 k F (((m + 1 : Nat) : Int)) ns (n : Int) (i : Int) t s ac ns) := by
   intro d
   induction d with
   | zero =>
    intro i F hi hF; (have : i = n := by omega); subst this; refine ResP.succ ?_; simp only [impl_machine_far.l2]; refine ResP.neg (by omega) ?_; rw [w64 (by omega) (by omega), show ((m + 1 : Nat) : Int) + 1 = ((m + 1 + 1 : Nat) : Int) by omega]; exact ih (m + 1) F (by omega) ⟨hF.1, fun q q0 q1 => by omega, fun q q0 q1 => hF.2.1 q (by omega) q1⟩
   | succ d ihd =>
    intro i F hi hF; (have hin : i < n := by omega); have hfl := hF.1; refine ResP.succ ?_; simp only [impl_machine_far.l2]; refine ResP.pos (by omega) (ResP.pos (by omega) (ResP.pos (by rw [hT.1]; omega) (ResP.pos (by rw [hF.1]; omega) ?_))); (have hi1 : wrap64 ((i : Int) + 1) = ((i + 1 : Nat) : Int) := by rw [w64 (by omega) (by omega)]; omega); by_cases c : rd F (i : Int) ≥ 0
    ·refine ResP.pos c ?_; rw [hi1]; refine ihd (i + 1) F (by omega) ⟨hF.1, fun q q0 q1 => ?_, fun q q0 q1 => hF.2.2 q (by omega) q1⟩; by_cases e : q < (i : Int)
     ·exact hF.2.1 q q0 e
     ·(have : q = (i : Int) := by omega); subst this; exact (hF.2.2 _ (by omega) (by omega)).up c
    ·refine ResP.neg c ?_; have hfar := (hF.2.2 (i : Int) (by omega) (by omega)).neg.1 (by omega); have hrow := hT.row (q := (i : Int)) (by omega) (by omega); have hrl : (rd_L9 ns (i : Int)).length = W := (hT.2 _ hrow).1; rw [hrl]
     have cols : ∀ (e j : Nat), j + e = W → (∀ c : Nat, c < j → ¬ rd F (stp ns (i : Int) (c : Int)) = (m : Int)) → ResP (FarOK W n ac ns) (fun k => impl_machine_far.l3 k F (((m + 1 : Nat) : Int)) (i : Int) ns (n : Int) (i : Int) (rd_L9 ns (i : Int)) (W : Int) (j : Int) t s ac ns) := by
      intro e
      induction e with
      | zero =>
       intro j hj hno; refine ResP.succ ?_; simp only [impl_machine_far.l3]; refine ResP.neg (by omega) ?_; rw [hi1]; refine ihd (i + 1) F (by omega) ⟨hF.1, fun q q0 q1 => ?_, fun q q0 q1 => hF.2.2 q (by omega) q1⟩; by_cases e : q < (i : Int)
       ·exact hF.2.1 q q0 e
       ·(have : q = (i : Int) := by omega); subst this; refine .inl ⟨?_, fun u tu => ?_⟩
        ·rcases hF.2.2 (i : Int) (by omega) (by omega) with ⟨h1, _⟩ | ⟨d, _, h1, _⟩
         ·exact h1
         ·omega
        ·have h1 := hfar u tu; by_cases e : u.length = m + 1
         ·exfalso; obtain ⟨c, hc, hd⟩ := (far_step hfar).1 ⟨⟨u, e, tu⟩, fun v tv => hfar v tv⟩; have hs := hT.stpd (q := (i : Int)) (c := (c : Int)) (by omega) (by omega) (by omega) (by omega); exact hno c (by omega) ((hF.test hs.1 hs.2).2 hd)
         ·omega
      | succ e ihe =>
       intro j hj hno; refine ResP.succ ?_; simp only [impl_machine_far.l3]; have hs := hT.stpd (q := (i : Int)) (c := (j : Int)) (by omega) (by omega) (by omega) (by omega); have hse : rd (rd_L9 ns (i : Int)) (j : Int) = stp ns (i : Int) (j : Int) := rfl; rw [hse]; refine ResP.pos (by omega) (ResP.pos (by omega) (ResP.pos (by rw [hrl]; omega) (ResP.pos hs.1 (ResP.pos (by rw [hF.1]; omega) ?_)))); (have hm1 : wrap64 (((m + 1 : Nat) : Int) - 1) = (m : Int) := by rw [w64 (by omega) (by omega)]; omega); rw [hm1]; by_cases ce : rd F (stp ns (i : Int) (j : Int)) = (m : Int)
       ·refine ResP.pos ce (ResP.pos (by omega) (ResP.pos (by rw [hF.1]; omega) ?_)); rw [hi1, Int.toNat_natCast]; have hD : Dist W ac ns (i : Int) (m + 1) := (far_step hfar).2 ⟨j, by omega, (hF.test hs.1 hs.2).1 ce⟩; refine ihd (i + 1) _ (by omega) ⟨by rw [List.length_set]; exact hF.1, fun q q0 q1 => ?_, fun q q0 q1 => (hF.2.2 q (by omega) q1).set (by omega) (by omega)⟩; by_cases e : q < (i : Int)
        ·exact (hF.2.1 q q0 e).set q0 (by omega)
        ·(have : q = (i : Int) := by omega); subst this; exact .inr ⟨m + 1, Nat.le_refl _, rd_set_at (by rw [hF.1]; exact hin), hD⟩
       ·refine ResP.neg ce ?_; rw [w64 (by omega) (by omega), show (j : Int) + 1 = ((j + 1 : Nat) : Int) by omega]; refine ihe (j + 1) (by omega) (fun c hc => ?_); by_cases e : c < j
        ·exact hno c e
        ·(have : c = j := by omega); subst this; exact ce
     exact cols W 0 (by omega) (fun c hc => by omega)
  exact rows n 0 F (by omega) hF
theorem far_l0 (hT : TableOK W n ns) (hn : ac.length = n) (hn2 : n ≤ 2000000) (hW : W ≤ 1000) : ∀ (d i : Nat) (F : List Int), i + d = n → F.length = n → (∀ q : Nat, q < i → rd F (q : Int) = if rdOf false ac (q : Int) = true then 0 else -1) → (∀ q : Nat, i ≤ q → q < n → rd F (q : Int) = 0) → ResP (FarOK W n ac ns) (fun k => impl_machine_far.l0 k F ac (n : Int) (i : Int) t s ac ns) := by
 intro d
 induction d with
 | zero =>
  intro i F hi hl h1 h2; refine ResP.succ ?_; simp only [impl_machine_far.l0]; refine ResP.neg (by omega) ?_; have := far_l1 (t := t) (s := s) hT hn hn2 hW n 0 F (by omega) ⟨hl, fun q q0 q1 => by omega, fun q q0 q1 => ?_⟩
  ·exact this
  ·have hq := h1 q.toNat (by omega); rw [show ((q.toNat : Nat) : Int) = q by omega] at hq; by_cases c : rdOf false ac q = true
   ·rw [if_pos c] at hq; exact .inr ⟨0, Nat.le_refl _, by rw [hq]; rfl, ⟨⟨[], rfl, rfl, c⟩, fun u _ => Nat.zero_le _⟩⟩
   ·rw [if_neg c] at hq; refine .inl ⟨hq, fun u tu => ?_⟩
    cases u with
    | nil => exact absurd tu.2 c
    | cons b u => simp
 | succ d ih =>
  intro i F hi hl h1 h2; refine ResP.succ ?_; simp only [impl_machine_far.l0]; (have hi1 : wrap64 ((i : Int) + 1) = ((i + 1 : Nat) : Int) := by rw [w64 (by omega) (by omega)]; omega); refine ResP.pos (by omega) (ResP.pos (by omega) (ResP.pos (by omega) ?_)); rw [hi1]; by_cases c : rdOf false ac (i : Int) = true
  ·refine ResP.pos c (ih (i + 1) F (by omega) hl (fun q hq => ?_) (fun q q0 q1 => h2 q (by omega) q1)); by_cases e : q < i
   ·exact h1 q e
   ·(have : q = i := by omega); subst this; rw [if_pos c]; exact h2 q (Nat.le_refl _) (by omega)
  ·refine ResP.neg c (ResP.pos (by omega) ?_); rw [Int.toNat_natCast]; refine ih (i + 1) _ (by omega) (by rw [List.length_set]; exact hl) (fun q hq => ?_) (fun q q0 q1 => ?_)
   ·by_cases e : q < i
    ·rw [rd_set_ne (by omega) (by omega)]; exact h1 q e
    ·(have : q = i := by omega); subst this; rw [if_neg c]; exact rd_set_at (by omega)
   ·rw [rd_set_ne (by omega) (by omega)]; exact h2 q (by omega) q1
theorem far_ev (hT : TableOK W n ns) (hn : ac.length = n) (hn2 : n ≤ 2000000) (hW : W ≤ 1000) : ResP (FarOK W n ac ns) (fun k => impl_machine_far.f k t s ac ns) := by
 unfold impl_machine_far.f; rw [hn]; refine ResP.pos (by omega) (ResP.pos (by omega) ?_); rw [Int.toNat_natCast]; refine far_l0 hT hn hn2 hW n 0 _ (by omega) (by simp) (fun q hq => by omega) (fun q _ hq => ?_); simp [rd, List.getD_eq_getElem?_getD, hq]
end
theorem cnt_none {W : Nat} {ac : List Bool} {ns : List (List Int)} : ∀ (n : Nat) (q : Int), (∀ w : List Int, w.length = n → inW W w = true → rdOf false ac (runT ns q w) = false) → cnt W ac ns n q = 0 := by
 intro n
 induction n with
 | zero => intro q h; have := h [] rfl rfl; simp only [runT] at this; simp [cnt, this]
 | succ n ih =>
  intro q h; refine sumN_all_zero (fun c hc => ih _ (fun w hw hin => ?_)); have := h ((c : Int) :: w) (by simp [hw]) (by simp [inW] at hin ⊢; exact ⟨by omega, hin⟩)
  simpa [runT] using this
/-- The right lists of n columns behind some pads. -/
def rcn (W : Nat) (pads : List Int) : Nat → Int → Nat
 | 0, _ => 1
 | n + 1, p => sumN W fun c => if bits .andNot .i64 p (rd pads (c : Int)) = 0 then rcn W pads n (rd pads (c : Int)) else 0
theorem cnt_le {W : Nat} {pads : List Int} {ac : List Bool} {ns : List (List Int)} : ∀ (n : Nat) (q p : Int), (∀ w : List Int, inW W w = true → rdOf false ac (runT ns q w) = true → okW W pads p w = true) → cnt W ac ns n q ≤ rcn W pads n p := by
 intro n
 induction n with
 | zero => intro q p _; simp only [cnt, rcn]; split <;> omega
 | succ n ih =>
  intro q p h; refine sumN_le (fun c hc => ?_)
  have hstep : ∀ w : List Int, inW W w = true → rdOf false ac (runT ns (stp ns q (c : Int)) w) = true → bits .andNot .i64 p (rd pads (c : Int)) = 0 ∧ okW W pads (rd pads (c : Int)) w = true := by
   intro w hw ha; have := h ((c : Int) :: w) (by simp [inW] at hw ⊢; exact ⟨by omega, hw⟩) (by simpa [runT] using ha); simp only [okW, Bool.and_eq_true, decide_eq_true_eq] at this; exact ⟨this.2.2.2.1, this.2.2.2.2⟩
  by_cases e : bits .andNot .i64 p (rd pads (c : Int)) = 0
  ·rw [if_pos e]; exact ih _ _ (fun w hw ha => (hstep w hw ha).2)
  ·rw [if_neg e]; refine Nat.le_of_eq (cnt_none n _ (fun w _ hin => ?_))
   cases hb : rdOf false ac (runT ns (stp ns q (c : Int)) w) with
   | false => rfl
   | true => exact absurd (hstep w hin hb).1 e
/-- .. told for all pads at once, to be evaluated. -/
def rcv (W m : Nat) (pads : List Int) : Nat → List Nat
 | 0 => List.replicate m 1
 | n + 1 => let v := rcv W m pads n; (List.range m).map fun p => sumN W fun c => if bits .andNot .i64 ((p : Nat) : Int) (rd pads (c : Int)) = 0 then v.getD (rd pads (c : Int)).toNat 0 else 0
theorem rcv_get {W m : Nat} {pads : List Int} (hp : ∀ c, c < W → 0 ≤ rd pads (c : Int) ∧ rd pads (c : Int) < (m : Int)) : ∀ (n p : Nat), p < m → (rcv W m pads n).getD p 0 = rcn W pads n (p : Int) := by
 intro n
 induction n with
 | zero => intro p h; simp [rcv, rcn, List.getD_eq_getElem?_getD, h]
 | succ n ih =>
  intro p h; simp only [rcv, rcn]; rw [List.getD_eq_getElem?_getD, List.getElem?_map, List.getElem?_range h]; simp only [Option.map_some, Option.getD_some]; refine sumN_eq (fun c hc => ?_); have hr := hp c hc; rw [ih _ (by omega), Int.toNat_of_nonneg hr.1]
theorem rcv_small : ∀ t : Fin 4, 1 ≤ t.val → ∀ n : Fin 20, ((rcv (wd t.val) (2 ^ t.val) (padsT t.val) n.val).all fun x => decide (x < 1152921504606846976)) = true := by decide +kernel
theorem pads_range {t : Nat} (h1 : 1 ≤ t) (h3 : t ≤ 3) : ∀ c, c < wd t → 0 ≤ rd (padsT t) (c : Int) ∧ rd (padsT t) (c : Int) < ((2 ^ t : Nat) : Int) := by
 intro c hc; obtain ⟨_, h2, h4⟩ := pads_fin ⟨t, by omega⟩; simp only at h2 h4; (have hc2 : c < (padsT t).length := by omega); have hm := h4 _ (List.getElem_mem hc2); rw [rd_nat _ _ hc2]; exact ⟨hm.1, by have := hm.2; rw [Int.natCast_pow]; exact this⟩
theorem rcn_small {t n : Nat} (h1 : 1 ≤ t) (h3 : t ≤ 3) (hn : n < 20) : rcn (wd t) (padsT t) n 0 < 1152921504606846976 := by
 have h := rcv_small ⟨t, by omega⟩ h1 ⟨n, hn⟩; simp only at h; have hp : (0 : Nat) < 2 ^ t := Nat.two_pow_pos t; have e := rcv_get (pads_range h1 h3) n 0 hp; rw [show ((0 : Nat) : Int) = 0 from rfl] at e; rw [← e]
 have hl : ∀ n, (rcv (wd t) (2 ^ t) (padsT t) n).length = 2 ^ t := by
  intro n
  cases n with
  | zero => simp [rcv]
  | succ n => simp [rcv]
 rw [List.all_eq_true] at h
 have hm : (rcv (wd t) (2 ^ t) (padsT t) n).getD 0 0 ∈ rcv (wd t) (2 ^ t) (padsT t) n := by
  rw [List.getD_eq_getElem?_getD, List.getElem?_eq_getElem (by rw [hl]; exact hp)]; exact List.getElem_mem _
 simpa using h _ hm
theorem sumN_add {W : Nat} (f g : Nat → Nat) : sumN W (fun c => f c + g c) = sumN W f + sumN W g := by
 induction W with
 | zero => rfl
 | succ W ih => rw [sumN_succ, sumN_succ, sumN_succ, ih]; omega
theorem sumN_mul {W : Nat} (f : Nat → Nat) (k : Nat) : sumN W (fun c => f c * k) = sumN W f * k := by
 induction W with
 | zero => simp [sumN]
 | succ W ih => rw [sumN_succ, sumN_succ, ih, Nat.add_mul]
theorem sumN_mulL {W : Nat} (f : Nat → Nat) (k : Nat) : sumN W (fun c => k * f c) = k * sumN W f := by
 induction W with
 | zero => simp [sumN]
 | succ W ih => rw [sumN_succ, sumN_succ, ih, Nat.mul_add]
theorem sumN_swap {N W : Nat} (f : Nat → Nat → Nat) : sumN N (fun a => sumN W (fun b => f a b)) = sumN W (fun b => sumN N (fun a => f a b)) := by
 induction N with
 | zero => symm; exact sumN_all_zero (fun _ _ => rfl)
 | succ N ih =>
  rw [sumN_succ, ih, ← sumN_add]; exact sumN_eq (fun b _ => by rw [sumN_succ])
theorem sumN_one {N : Nat} {i : Nat} (hi : i < N) (f : Nat → Nat) (h : ∀ c, c < N → c ≠ i → f c = 0) : sumN N f = f i := by
 induction N with
 | zero => omega
 | succ N ih =>
  rw [sumN_succ]; by_cases e : i = N
  ·subst e; rw [sumN_all_zero (fun c hc => h c (by omega) (by omega))]; omega
  ·rw [ih (by omega) (fun c hc hne => h c (by omega) hne), h N (by omega) (fun e2 => e e2.symm)]; omega
section
variable {N W : Nat} {ns : List (List Int)} {D : Nat → Bool}
/-- One step forward; D tells what is not followed. -/
def stepV (N W : Nat) (ns : List (List Int)) (D : Nat → Bool) (v : Nat → Nat) (t : Nat) : Nat := sumN N fun q => if D q = true then 0 else sumN W fun c => if stp ns (q : Int) (c : Int) = (t : Int) ∧ D t = false then v q else 0
theorem step_dual (hT : TableOK W N ns) {g : Nat → Nat} (hg : ∀ t, t < N → D t = true → g t = 0) (hs : ∀ q, q < N → D q = true → sumN W (fun c => g (stp ns (q : Int) (c : Int)).toNat) = 0) (v : Nat → Nat) :
  sumN N (fun t => stepV N W ns D v t * g t) = sumN N (fun q => v q * sumN W (fun c => g (stp ns (q : Int) (c : Int)).toNat)) := by
 have e1 : ∀ t, t < N → stepV N W ns D v t * g t = sumN N (fun q => if D q = true then 0 else sumN W fun c => (if stp ns (q : Int) (c : Int) = (t : Int) ∧ D t = false then v q else 0) * g t) := by
  intro t _; unfold stepV; rw [← sumN_mul]; refine sumN_eq (fun q _ => ?_)
  split
  ·simp
  ·rw [sumN_mul]
 rw [sumN_eq e1, sumN_swap]; refine sumN_eq (fun q hq => ?_); by_cases hd : D q = true
 ·rw [hs q hq hd, Nat.mul_zero]; exact sumN_all_zero (fun t _ => by rw [if_pos hd])
 ·rw [sumN_eq (g := fun t => sumN W fun c => (if stp ns (q : Int) (c : Int) = (t : Int) ∧ D t = false then v q else 0) * g t) (fun t _ => if_neg hd), sumN_swap, ← sumN_mulL]; refine sumN_eq (fun c hc => ?_); have hr := hT.stpd (q := (q : Int)) (c := (c : Int)) (by omega) (by omega) (by omega) (by omega); (have hi : (stp ns (q : Int) (c : Int)).toNat < N := by omega); rw [sumN_one hi _ (fun t _ hne => by rw [if_neg (fun h => hne (by omega)), Nat.zero_mul])]; by_cases hdt : D (stp ns (q : Int) (c : Int)).toNat = true
  ·rw [hg _ hi hdt, Nat.mul_zero, Nat.mul_zero]
  ·rw [if_pos ⟨by omega, by simpa using hdt⟩]
/-- n steps forward from one state. -/
def fwdV (N W : Nat) (ns : List (List Int)) (D : Nat → Bool) (s : Nat) : Nat → Nat → Nat
 | 0, t => if t = s then 1 else 0
 | n + 1, t => stepV N W ns D (fwdV N W ns D s n) t
theorem fwd_dual (hT : TableOK W N ns) {ac : List Bool} (hD : ∀ q, q < N → D q = true → ∀ n, cnt W ac ns n (q : Int) = 0) {s : Nat} (hs : s < N) : ∀ n m, sumN N (fun t => fwdV N W ns D s n t * cnt W ac ns m (t : Int)) = cnt W ac ns (n + m) (s : Int) := by
 intro n
 induction n with
 | zero =>
  intro m; rw [sumN_one hs _ (fun t _ hne => by simp [fwdV, hne])]; simp [fwdV]
 | succ n ih =>
  intro m
  have hx : ∀ q, q < N → sumN W (fun c => cnt W ac ns m ((stp ns (q : Int) (c : Int)).toNat : Int)) = cnt W ac ns (m + 1) (q : Int) := by
   intro q hq; simp only [cnt]; refine sumN_eq (fun c hc => ?_); have hr := hT.stpd (q := (q : Int)) (c := (c : Int)) (by omega) (by omega) (by omega) (by omega); rw [Int.toNat_of_nonneg hr.1]
  have h := step_dual (D := D) hT (g := fun t => cnt W ac ns m (t : Int)) (fun t ht hd => hD t ht hd m) (fun q hq hd => by rw [hx q hq]; exact hD q hq hd _) (fwdV N W ns D s n); simp only [fwdV]; rw [h, sumN_eq (fun q hq => by rw [hx q hq]), ih (m + 1)]
  congr 1; omega
end
theorem runT_cat (ns : List (List Int)) : ∀ (u v : List Int) (q : Int), runT ns q (u ++ v) = runT ns (runT ns q u) v := by
 intro u
 induction u with
 | nil => intro v q; rfl
 | cons c u ih => intro v q; simp only [List.cons_append, runT]; exact ih v _
section
variable {W N : Nat} {ac : List Bool} {ns : List (List Int)}
end
theorem sumC_eq (top : Nat) (f : Nat → Nat) : ∀ W, sumC top (fun c => min (f c) top) W = min (sumN W f) top := by
 intro W
 induction W with
 | zero => simp [sumC, sumN]
 | succ W ih => rw [sumC, ih, sumN_succ]; omega
theorem cntC_eq {top W : Nat} (h1 : 1 ≤ top) {ac : List Bool} {ns : List (List Int)} : ∀ (n : Nat) (q : Int), cntC top W ac ns n q = min (cnt W ac ns n q) top := by
 intro n
 induction n with
 | zero => intro q; simp only [cntC, cnt]; split <;> omega
 | succ n ih =>
  intro q; simp only [cntC, cnt]; rw [show (fun c : Nat => cntC top W ac ns n (stp ns q (c : Int))) = fun c : Nat => min (cnt W ac ns n (stp ns q (c : Int))) top from funext fun c => ih _]; exact sumC_eq top _ W
theorem okW_prefix {W : Nat} {pads : List Int} : ∀ (w u : List Int) (p : Int), okW W pads p (w ++ u) = true → okW W pads p w = true := by
 intro w
 induction w with
 | nil =>
  intro u p h
  cases u with
  | nil => exact h
  | cons c u =>
   simp only [List.nil_append, okW, Bool.and_eq_true] at h ⊢
   exact h.2.2.1
 | cons c w ih =>
  intro u p h
  simp only [List.cons_append, okW, Bool.and_eq_true] at h ⊢
  exact ⟨h.1, h.2.1, h.2.2.1, h.2.2.2.1, ih u _ h.2.2.2.2⟩
/-- The states from which something is taken. -/
def liveL (N : Nat) (F : List Int) : List Bool := (List.range N).map fun q => decide (0 ≤ rd F ((q : Nat) : Int))
theorem liveL_at {N : Nat} {F : List Int} {q : Int} (q0 : 0 ≤ q) (q1 : q < (N : Int)) : rdOf false (liveL N F) q = decide (0 ≤ rd F q) := by
 obtain ⟨q, rfl⟩ := Int.eq_ofNat_of_zero_le q0; (have hq : q < N := by omega); simp [rdOf, liveL, List.getD_eq_getElem?_getD, List.getElem?_map, List.getElem?_range hq]
def deadF (F : List Int) (q : Nat) : Bool := decide (rd F (q : Int) < 0)
section
variable {W N : Nat} {ac : List Bool} {ns : List (List Int)} {F : List Int}
theorem live_more (hT : TableOK W N ns) (hF : FarOK W N ac ns F) {q : Int} (q0 : 0 ≤ q) (q1 : q < (N : Int)) {w : List Int} (hi : inW W w = true) (h : rdOf false (liveL N F) (runT ns q w) = true) : ∃ u, Tk W ac ns q (w ++ u) := by
 have hr := runT_range hT w q hi q0 q1; rw [liveL_at hr.1 hr.2, decide_eq_true_eq] at h
 rcases hF.2 _ hr.1 hr.2 with ⟨e, _⟩ | ⟨d, _, _, ⟨u, _, tu⟩, _⟩
 ·omega
 ·refine ⟨u, ?_, ?_⟩
  ·have := tu.1
   simp only [inW, List.all_append, Bool.and_eq_true] at hi this ⊢
   exact ⟨hi, this⟩
  ·rw [runT_cat]; exact tu.2
theorem dead_cnt (hT : TableOK W N ns) (hF : FarOK W N ac ns F) {q : Nat} (hq : q < N) (hd : deadF F q = true) (n : Nat) : cnt W (liveL N F) ns n (q : Int) = 0 := by
 refine cnt_none n _ (fun w _ hi => ?_)
 cases h : rdOf false (liveL N F) (runT ns (q : Int) w) with
 | false => rfl
 | true =>
  exfalso; obtain ⟨u, tu⟩ := live_more hT hF (by omega) (by omega) hi h; simp only [deadF, decide_eq_true_eq] at hd
  rcases hF.2 (q : Int) (by omega) (by omega) with ⟨_, h2⟩ | ⟨d, _, e, _⟩
  ·exact h2 _ tu
  ·omega
theorem dead_cnt' (hT : TableOK W N ns) (hF : FarOK W N ac ns F) {q : Nat} (hq : q < N) (hd : deadF F q = true) (n : Nat) : cnt W ac ns n (q : Int) = 0 := by
 refine cnt_none n _ (fun w _ hi => ?_)
 cases h : rdOf false ac (runT ns (q : Int) w) with
 | false => rfl
 | true =>
  exfalso; simp only [deadF, decide_eq_true_eq] at hd
  rcases hF.2 (q : Int) (by omega) (by omega) with ⟨_, h2⟩ | ⟨d, _, e, _⟩
  ·exact h2 w ⟨hi, h⟩
  ·omega
/-- How many ways lead to a state within n columns, the dead ones left out: fewer than the right lists. -/
theorem fwd_small (hT : TableOK W N ns) (hF : FarOK W N ac ns F) {pads : List Int} (hright : ∀ w, Tk W ac ns 0 w → okW W pads 0 w = true) (h0 : 0 < N) (n t : Nat) (ht : t < N) : fwdV N W ns (deadF F) 0 n t ≤ 1 + rcn W pads n 0 := by
 by_cases hd : deadF F t = true
 ·cases n with
  | zero => simp only [fwdV]; split <;> omega
  | succ n =>
   simp only [fwdV, stepV]; rw [sumN_all_zero (fun q _ => by split; rfl; exact sumN_all_zero (fun c _ => if_neg (fun h => by rw [hd] at h; exact absurd h.2 (by simp))))]; omega
 ·have h1 := fwd_dual (D := deadF F) hT (ac := liveL N F) (fun q hq hd n => dead_cnt hT hF hq hd n) h0 n 0; have h2 : fwdV N W ns (deadF F) 0 n t * cnt W (liveL N F) ns 0 (t : Int) ≤ sumN N (fun t => fwdV N W ns (deadF F) 0 n t * cnt W (liveL N F) ns 0 (t : Int)) := sumN_ge (f := fun t => fwdV N W ns (deadF F) 0 n t * cnt W (liveL N F) ns 0 (t : Int)) ht
  have h3 : cnt W (liveL N F) ns 0 (t : Int) = 1 := by
   simp only [cnt]; rw [liveL_at (by omega) (by omega)]; simp only [deadF, decide_eq_true_eq] at hd; simp; omega
  have h4 : cnt W (liveL N F) ns (n + 0) ((0 : Nat) : Int) ≤ rcn W pads (n + 0) 0 := cnt_le _ _ _ (fun w hi h => by
   obtain ⟨u, tu⟩ := live_more hT hF (by omega) (by omega) hi h
   exact okW_prefix w u 0 (hright _ tu))
  rw [h3, Nat.mul_one] at h2; rw [h1] at h2; simp only [Nat.add_zero] at h2 h4; omega
end
theorem tabR_set {N t : Nat} {f f' : Nat → Int} {x : Int} (ht : t < N) (h1 : f' t = x) (h2 : ∀ q, q < N → q ≠ t → f' q = f q) : (tabR N f).set t x = tabR N f' := by
 apply List.ext_getElem
 ·simp [tabR]
 ·intro i hi hi2; simp only [tabR, List.length_map, List.length_range] at hi2; rw [List.getElem_set]; simp only [tabR, List.getElem_map, List.getElem_range]
  split
  ·rename_i e; subst e; exact h1.symm
  ·rename_i e; exact (h2 i hi2 (fun e2 => e e2.symm)).symm
theorem tabR_eq {N : Nat} {f f' : Nat → Int} (h : ∀ q, q < N → f q = f' q) : tabR N f = tabR N f' := by
 unfold tabR; exact List.map_congr_left (fun q hq => h q (List.mem_range.1 hq))
theorem replicate_tab (N : Nat) : List.replicate N (0 : Int) = tabR N (fun _ => 0) := by
 apply List.ext_getElem <;> simp [tabR]
section
variable {W N : Nat} {ac : List Bool} {ns : List (List Int)} {F pads : List Int}
def giveV (W : Nat) (ns : List (List Int)) (D : Nat → Bool) (v : Nat → Nat) (t q : Nat) : Nat := if D q = true then 0 else sumN W fun c => if stp ns (q : Int) (c : Int) = (t : Int) ∧ D t = false then v q else 0
def takeV (ac : List Bool) (D : Nat → Bool) (v : Nat → Nat) (q : Nat) : Nat := if D q = true then 0 else if rdOf false ac (q : Int) = true then v q else 0
theorem takeV_sum (hT : TableOK W N ns) (hF : FarOK W N ac ns F) (h0 : 0 < N) (n : Nat) : sumN N (takeV ac (deadF F) (fwdV N W ns (deadF F) 0 n)) = cnt W ac ns n 0 := by
 have h := fwd_dual (D := deadF F) hT (ac := ac) (fun q hq hd n => dead_cnt' hT hF hq hd n) h0 n 0; rw [Nat.add_zero] at h; rw [show ((0 : Nat) : Int) = 0 from rfl] at h; rw [← h]; refine sumN_eq (fun q hq => ?_); unfold takeV; by_cases hd : deadF F q = true
 ·rw [if_pos hd, dead_cnt' hT hF hq hd 0, Nat.mul_zero]
 ·rw [if_neg hd]; simp only [cnt]
  split
  ·rw [Nat.mul_one]
  ·rw [Nat.mul_zero]
variable {t s : Int}
theorem counts_l0 (hT : TableOK W N ns) (hn : ac.length = N) (h0 : 0 < N) (hN : N ≤ 2000000) (hW : W ≤ 1000) (hF : FarOK W N ac ns F) (eF : Ev (fun k => impl_machine_far.f k t s ac ns) F)
  {L : Nat} (hb : ∀ n q, n ≤ L + 1 → q < N → fwdV N W ns (deadF F) 0 n q ≤ 1152921504606846976) (hc : ∀ n, n ≤ L → cnt W ac ns n 0 ≤ 1152921504606846976) (hL : L ≤ 1000) :
  ∀ (d n : Nat), n + d = L + 1 → Ev (fun k => impl_machine_countsTo.l0 k (L : Int) (tabR N fun q => ((fwdV N W ns (deadF F) 0 n q : Nat) : Int)) (tabR n fun m => ((cnt W ac ns m 0 : Nat) : Int)) (n : Int) t s ac ns) (tabR (L + 1) fun m => ((cnt W ac ns m 0 : Nat) : Int)) := by
 intro d
 induction d with
 | zero =>
  intro n hnl; refine Ev.succ ?_; simp only [impl_machine_countsTo.l0]; (obtain rfl : n = L + 1 := by omega); exact Ev.neg (by omega) (Ev.now _)
 | succ d ih =>
  intro n hnl; refine Ev.succ ?_; simp only [impl_machine_countsTo.l0, tabR_len]; refine Ev.pos (by omega) (Ev.pos (by omega) (Ev.pos (by omega) (Ev.bind eF ?_))); rw [Int.toNat_natCast, replicate_tab]; (have hn1 : wrap64 ((n : Int) + 1) = ((n + 1 : Nat) : Int) := by rw [w64 (by omega) (by omega)]; omega); (have hD : ∀ q, q < N → (rd F (q : Int) < 0 ↔ deadF F q = true) := fun q _ => by simp [deadF])
  have rows : ∀ (e q : Nat), q + e = N → Ev (fun k => impl_machine_countsTo.l1 k (L : Int) (tabR n fun m => ((cnt W ac ns m 0 : Nat) : Int)) (n : Int) ((sumN q (takeV ac (deadF F) (fwdV N W ns (deadF F) 0 n)) : Nat) : Int) (tabR N fun t => ((sumN q (giveV W ns (deadF F) (fwdV N W ns (deadF F) 0 n) t) : Nat) : Int)) F (tabR N fun q => ((fwdV N W ns (deadF F) 0 n q : Nat) : Int)) (N : Int) (q : Int) t s ac ns) (tabR (L + 1) fun m => ((cnt W ac ns m 0 : Nat) : Int)) := by
   intro e
   induction e with
   | zero =>
    intro q hq; (obtain rfl : q = N := by omega); refine Ev.succ ?_; simp only [impl_machine_countsTo.l1]; refine Ev.neg (by omega) (Ev.pos (by rw [tabR_len]; omega) ?_); rw [hn1, takeV_sum hT hF h0 n, ← tabR_snoc]; exact ih (n + 1) (by omega)
   | succ e ihe =>
    intro q hq; (have hqN : q < N := by omega); refine Ev.succ ?_; simp only [impl_machine_countsTo.l1]; refine Ev.pos (by omega) (Ev.pos (by omega) (Ev.pos (by rw [tabR_len]; omega) ?_)); rw [tabR_at hqN]; (have hq1 : wrap64 ((q : Int) + 1) = ((q + 1 : Nat) : Int) := by rw [w64 (by omega) (by omega)]; omega)
    have hskip : (deadF F q = true ∨ fwdV N W ns (deadF F) 0 n q = 0) → Ev (fun k => impl_machine_countsTo.j2 k (L : Int) (tabR n fun m => ((cnt W ac ns m 0 : Nat) : Int)) (n : Int) ((sumN q (takeV ac (deadF F) (fwdV N W ns (deadF F) 0 n)) : Nat) : Int) (tabR N fun t => ((sumN q (giveV W ns (deadF F) (fwdV N W ns (deadF F) 0 n) t) : Nat) : Int)) F (q : Int) ((fwdV N W ns (deadF F) 0 n q : Nat) : Int) (tabR N fun q => ((fwdV N W ns (deadF F) 0 n q : Nat) : Int)) (N : Int) (q : Int) true t s ac ns) (tabR (L + 1) fun m => ((cnt W ac ns m 0 : Nat) : Int)) := by
     intro h; refine Ev.succ ?_; simp only [impl_machine_countsTo.j2]; refine Ev.pos (by simp) ?_
     have e1 : takeV ac (deadF F) (fwdV N W ns (deadF F) 0 n) q = 0 := by
      unfold takeV
      rcases h with h | h
      ·rw [if_pos h]
      ·split
       ·rfl
       ·split; exact h; rfl
     have e2 : ∀ t, giveV W ns (deadF F) (fwdV N W ns (deadF F) 0 n) t q = 0 := fun t => by
      unfold giveV
      rcases h with h | h
      ·rw [if_pos h]
      ·split
       ·rfl
       ·exact sumN_all_zero (fun c _ => by split; exact h; rfl)
     have := ihe (q + 1) (by omega); rw [hq1]; simp only [sumN_succ, e1, e2, Nat.add_zero] at this; exact this
    by_cases hz : ((fwdV N W ns (deadF F) 0 n q : Nat) : Int) = 0
    ·exact Ev.pos hz (hskip (.inr (by omega)))
    ·refine Ev.neg hz (Ev.pos (by rw [hF.1]; omega) ?_); by_cases hd : deadF F q = true
     ·rw [show decide (rd F (q : Int) < 0) = true from decide_eq_true ((hD q hqN).2 hd)]; exact hskip (.inl hd)
     ·rw [show decide (rd F (q : Int) < 0) = false from decide_eq_false (fun h => hd ((hD q hqN).1 h))]; refine Ev.succ ?_; simp only [impl_machine_countsTo.j2]; refine Ev.neg (by simp) (Ev.pos (by omega) (Ev.pos (by omega) ?_)); have hrow := hT.row (q := (q : Int)) (by omega) (by omega); have hrl : (rd_L9 ns (q : Int)).length = W := (hT.2 _ hrow).1
      -- the row's columns, whatever the count is
      have cols : ∀ (e2 c : Nat), c + e2 = W → Ev (fun k => impl_machine_countsTo.l2 k (L : Int) (tabR n fun m => ((cnt W ac ns m 0 : Nat) : Int)) (n : Int) ((sumN (q + 1) (takeV ac (deadF F) (fwdV N W ns (deadF F) 0 n)) : Nat) : Int) (tabR N fun t => ((sumN q (giveV W ns (deadF F) (fwdV N W ns (deadF F) 0 n) t) + sumN c (fun c => if stp ns (q : Int) (c : Int) = (t : Int) ∧ deadF F t = false then fwdV N W ns (deadF F) 0 n q else 0) : Nat) : Int)) F ((fwdV N W ns (deadF F) 0 n q : Nat) : Int) (tabR N fun q => ((fwdV N W ns (deadF F) 0 n q : Nat) : Int)) (N : Int) (q : Int) (rd_L9 ns (q : Int)) (W : Int) (c : Int) t s ac ns) (tabR (L + 1) fun m => ((cnt W ac ns m 0 : Nat) : Int)) := by
       intro e2
       induction e2 with
       | zero =>
        intro c hcW; (obtain rfl : c = W := by omega); refine Ev.succ ?_; simp only [impl_machine_countsTo.l2]; refine Ev.neg (by omega) ?_; rw [hq1]; have h2 := ihe (q + 1) (by omega)
        have e3 : (fun t : Nat => ((sumN (q + 1) (giveV c ns (deadF F) (fwdV N c ns (deadF F) 0 n) t) : Nat) : Int)) = fun t => ((sumN q (giveV c ns (deadF F) (fwdV N c ns (deadF F) 0 n) t) + sumN c (fun d => if stp ns (q : Int) (d : Int) = (t : Int) ∧ deadF F t = false then fwdV N c ns (deadF F) 0 n q else 0) : Nat) : Int) := by
         funext t
         rw [sumN_succ]
         congr 2
         unfold giveV; rw [if_neg hd]
        rw [e3] at h2; exact h2
       | succ e2 ih2 =>
        intro c hcW; (have hcw : c < W := by omega); have hr := hT.stpd (q := (q : Int)) (c := (c : Int)) (by omega) (by omega) (by omega) (by omega); have hse : rd (rd_L9 ns (q : Int)) (c : Int) = stp ns (q : Int) (c : Int) := rfl; (have hc1 : wrap64 ((c : Int) + 1) = ((c + 1 : Nat) : Int) := by rw [w64 (by omega) (by omega)]; omega); refine Ev.succ ?_; simp only [impl_machine_countsTo.l2]; rw [hse, hrl, hc1]; refine Ev.pos (Int.ofNat_lt.2 hcw) (Ev.pos (Int.natCast_nonneg c) (Ev.pos (Int.ofNat_lt.2 hcw) (Ev.pos hr.1 (Ev.pos (by rw [hF.1]; exact hr.2) ?_)))); (have hti : (stp ns (q : Int) (c : Int)).toNat < N := by omega); have hte : (((stp ns (q : Int) (c : Int)).toNat : Nat) : Int) = stp ns (q : Int) (c : Int) := Int.toNat_of_nonneg hr.1; by_cases hdt : deadF F (stp ns (q : Int) (c : Int)).toNat = true
        ·have hlt := (hD _ hti).2 hdt; rw [hte] at hlt; refine Ev.neg (by omega) ?_; have h2 := ih2 (c + 1) (by omega)
         have e3 : tabR N (fun t : Nat => ((sumN q (giveV W ns (deadF F) (fwdV N W ns (deadF F) 0 n) t) + sumN (c + 1) (fun c => if stp ns (q : Int) (c : Int) = (t : Int) ∧ deadF F t = false then fwdV N W ns (deadF F) 0 n q else 0) : Nat) : Int)) = tabR N (fun t => ((sumN q (giveV W ns (deadF F) (fwdV N W ns (deadF F) 0 n) t) + sumN c (fun c => if stp ns (q : Int) (c : Int) = (t : Int) ∧ deadF F t = false then fwdV N W ns (deadF F) 0 n q else 0) : Nat) : Int)) := by
          refine tabR_eq (fun t ht => ?_); rw [sumN_succ, if_neg]
          ·rfl
          ·rintro ⟨h1, h3⟩; (have : (stp ns (q : Int) (c : Int)).toNat = t := by omega); rw [this, h3] at hdt; exact absurd hdt (by simp)
         rw [e3] at h2; exact h2
        ·have hge : ¬ rd F (stp ns (q : Int) (c : Int)) < 0 := by
          have := (not_congr (hD _ hti)).2 hdt
          rwa [hte] at this
         refine Ev.pos (by omega) (Ev.pos (by rw [tabR_len]; exact hr.2) ?_)
         have hat : rd (tabR N fun t => ((sumN q (giveV W ns (deadF F) (fwdV N W ns (deadF F) 0 n) t) + sumN c (fun c => if stp ns (q : Int) (c : Int) = (t : Int) ∧ deadF F t = false then fwdV N W ns (deadF F) 0 n q else 0) : Nat) : Int)) (stp ns (q : Int) (c : Int)) = ((sumN q (giveV W ns (deadF F) (fwdV N W ns (deadF F) 0 n) (stp ns (q : Int) (c : Int)).toNat) + sumN c (fun d => if stp ns (q : Int) (d : Int) = (((stp ns (q : Int) (c : Int)).toNat : Nat) : Int) ∧ deadF F (stp ns (q : Int) (c : Int)).toNat = false then fwdV N W ns (deadF F) 0 n q else 0) : Nat) : Int) := by
          have h_ := tabR_at hti (fun t => ((sumN q (giveV W ns (deadF F) (fwdV N W ns (deadF F) 0 n) t) + sumN c (fun c => if stp ns (q : Int) (c : Int) = (t : Int) ∧ deadF F t = false then fwdV N W ns (deadF F) 0 n q else 0) : Nat) : Int)); rw [hte] at h_; rw [h_, hte]
         have hnew : sumN (c + 1) (fun d => if stp ns (q : Int) (d : Int) = (((stp ns (q : Int) (c : Int)).toNat : Nat) : Int) ∧ deadF F (stp ns (q : Int) (c : Int)).toNat = false then fwdV N W ns (deadF F) 0 n q else 0) = sumN c (fun d => if stp ns (q : Int) (d : Int) = (((stp ns (q : Int) (c : Int)).toNat : Nat) : Int) ∧ deadF F (stp ns (q : Int) (c : Int)).toNat = false then fwdV N W ns (deadF F) 0 n q else 0) + fwdV N W ns (deadF F) 0 n q := by
          rw [sumN_succ, if_pos ⟨hte.symm, by simpa using hdt⟩]
         have hbound : sumN q (giveV W ns (deadF F) (fwdV N W ns (deadF F) 0 n) (stp ns (q : Int) (c : Int)).toNat) + sumN (c + 1) (fun d => if stp ns (q : Int) (d : Int) = (((stp ns (q : Int) (c : Int)).toNat : Nat) : Int) ∧ deadF F (stp ns (q : Int) (c : Int)).toNat = false then fwdV N W ns (deadF F) 0 n q else 0) ≤ 1152921504606846976 := by
          have h1 : sumN (c + 1) (fun d => if stp ns (q : Int) (d : Int) = (((stp ns (q : Int) (c : Int)).toNat : Nat) : Int) ∧ deadF F (stp ns (q : Int) (c : Int)).toNat = false then fwdV N W ns (deadF F) 0 n q else 0) ≤ giveV W ns (deadF F) (fwdV N W ns (deadF F) 0 n) (stp ns (q : Int) (c : Int)).toNat q := by
           unfold giveV; rw [if_neg hd]; exact sumN_part (by omega)
          have h2 : sumN (q + 1) (giveV W ns (deadF F) (fwdV N W ns (deadF F) 0 n) (stp ns (q : Int) (c : Int)).toNat) ≤ sumN N (giveV W ns (deadF F) (fwdV N W ns (deadF F) 0 n) (stp ns (q : Int) (c : Int)).toNat) := sumN_part (by omega); have h3 : sumN N (giveV W ns (deadF F) (fwdV N W ns (deadF F) 0 n) (stp ns (q : Int) (c : Int)).toNat) = fwdV N W ns (deadF F) 0 (n + 1) (stp ns (q : Int) (c : Int)).toNat := rfl; have h4 := hb (n + 1) (stp ns (q : Int) (c : Int)).toNat (by omega) hti; rw [sumN_succ] at h2; omega
         rw [hat, w64 (by omega) (by omega)]; have h2 := ih2 (c + 1) (by omega)
         rw [tabR_set (f' := fun t => ((sumN q (giveV W ns (deadF F) (fwdV N W ns (deadF F) 0 n) t) + sumN (c + 1) (fun c => if stp ns (q : Int) (c : Int) = (t : Int) ∧ deadF F t = false then fwdV N W ns (deadF F) 0 n q else 0) : Nat) : Int)) hti (by rw [hnew]; omega) (fun t ht hne => by
          rw [sumN_succ, if_neg (fun h => hne (by omega))]; rfl)]
         exact h2
      have htot := takeV_sum hT hF h0 n; have hpart : sumN (q + 1) (takeV ac (deadF F) (fwdV N W ns (deadF F) 0 n)) ≤ 1152921504606846976 := Nat.le_trans (sumN_part (W := N) (by omega)) (by rw [htot]; exact hc n (by omega)); have hc0 := cols W 0 (by omega); simp only [sumN_zero, Nat.add_zero] at hc0; rw [sumN_succ] at hc0 hpart; by_cases ha : rdOf false ac (q : Int) = true
      ·refine Ev.pos ha (Ev.succ ?_); simp only [impl_machine_countsTo.j3]; refine Ev.pos (by omega) (Ev.pos (by rw [hT.1]; omega) ?_); rw [hrl]; (have e1 : takeV ac (deadF F) (fwdV N W ns (deadF F) 0 n) q = fwdV N W ns (deadF F) 0 n q := by unfold takeV; rw [if_neg hd, if_pos ha]); rw [e1] at hc0 hpart; rw [w64 (by omega) (by omega)]; rw [show ((sumN q (takeV ac (deadF F) (fwdV N W ns (deadF F) 0 n)) : Nat) : Int) + ((fwdV N W ns (deadF F) 0 n q : Nat) : Int) = ((sumN q (takeV ac (deadF F) (fwdV N W ns (deadF F) 0 n)) + fwdV N W ns (deadF F) 0 n q : Nat) : Int) by omega]; exact hc0
      ·refine Ev.neg ha (Ev.succ ?_); simp only [impl_machine_countsTo.j3]; refine Ev.pos (by omega) (Ev.pos (by rw [hT.1]; omega) ?_); rw [hrl]; (have e1 : takeV ac (deadF F) (fwdV N W ns (deadF F) 0 n) q = 0 := by unfold takeV; rw [if_neg hd, if_neg ha]); rw [e1, Nat.add_zero] at hc0; exact hc0
  have := rows N 0 (by omega); simp only [sumN_zero] at this; exact this
/-- All counts up to a length. -/
theorem counts_ev (hT : TableOK W N ns) (hn : ac.length = N) (h0 : 0 < N) (hN : N ≤ 2000000) (hW : W ≤ 1000) (hright : ∀ w, Tk W ac ns 0 w → okW W pads 0 w = true) {L : Nat} (hL : L ≤ 18) (hb : ∀ n, n ≤ 19 → rcn W pads n 0 < 1152921504606846976) :
  Ev (fun k => impl_machine_countsTo.f k t 0 ac ns (L : Int)) (tabR (L + 1) fun m => ((cnt W ac ns m 0 : Nat) : Int)) := by
 obtain ⟨F, eF, hF⟩ := far_ev (t := t) (s := 0) hT hn hN hW
 have hcn : ∀ n, n ≤ L → cnt W ac ns n 0 ≤ 1152921504606846976 := fun n hn => by
  have h1 := cnt_le (W := W) (pads := pads) (ac := ac) (ns := ns) n 0 0 (fun w hi ha => hright w ⟨hi, ha⟩); have := hb n (by omega); omega
 have h := counts_l0 (t := t) (s := 0) hT hn h0 hN hW hF eF (L := L) (fun n q hn hq => by
  have h1 := fwd_small hT hF hright h0 n q hq; have := hb n (by omega)
  omega) hcn (by omega) (L + 1) 0 (by omega)
 unfold impl_machine_countsTo.f; rw [hn]; refine Ev.pos (by omega) (Ev.pos (by omega) ?_); refine Ev.bind (a := List.replicate N 0) (Ev.const (by rw [Int.toNat_natCast])) ?_; refine Ev.pos (by omega) (Ev.pos (by rw [List.length_replicate]; omega) ?_); rw [show (Int.toNat 0) = 0 from rfl, replicate_tab, tabR_set (f := fun _ => 0) (x := 1) (f' := fun q => ((fwdV N W ns (deadF F) 0 0 q : Nat) : Int)) h0 (by simp [fwdV]) (fun q _ hne => by simp [fwdV, hne])]; exact h
end
theorem countTuples_both {t s a : Int} {ac : List Bool} {ns : List (List Int)} (h : SzOK ac ns) : ∃ R : Int × Int, Ev (fun k => spec_CountTuples.f k t s ac ns a) R ∧ Ev (fun k => impl_CountTuples.f k t s ac ns a) R := by
 by_cases hv : okRel t s ac ns = true
 ·by_cases ha : 0 ≤ a ∧ a ≤ 18
  ·obtain ⟨n, rfl, h1, h3, hl1, hl, s0, s1, hT⟩ := okRel_parts hv; obtain ⟨r, hr, hi⟩ := impl_tidy_ev h1 h3 (by omega) s0 s1 hT; have hs := spec_tidied_ev h1 h3 (by omega) s0 s1 hT hr; obtain ⟨d1, d2, d3, d4⟩ := tidyD_table hr.choose_spec; have hW := wd_le n h3; obtain ⟨L, rfl⟩ := Int.eq_ofNat_of_zero_le ha.1; (have hL : L ≤ 18 := by omega); have hright : ∀ w, Tk (wd n) r.1 r.2 0 w → okW (wd n) (padsT n) 0 w = true := fun w hw => tidy_right hr hw; have hb : ∀ m, m ≤ 19 → rcn (wd n) (padsT n) m 0 < 1152921504606846976 := fun m hm => rcn_small h1 h3 (by omega); have hrow : (r.2.getD 0 []).length = wd n := (d1.2 _ (d1.row (q := 0) (by omega) (by omega))).1
   have hcs : ∀ m, m ≤ 18 → cntC 1152921504606846976 (wd n) r.1 r.2 m 0 = cnt (wd n) r.1 r.2 m 0 := fun m hm => by
    have h1 := cnt_le (W := wd n) (pads := padsT n) (ac := r.1) (ns := r.2) m 0 0 (fun w hi ha => hright w ⟨hi, ha⟩); have := hb m (by omega); rw [cntC_eq (by omega)]; omega
   refine ⟨(((cnt (wd n) r.1 r.2 L 0 : Nat) : Int), 0), ?_, ?_⟩
   ·unfold spec_CountTuples.f; refine Ev.bind (a := ((0 : Int), (n : Int), s)) ?_ ?_
    ·unfold spec_l01Asked.f; refine Ev.bind (spec_ok_ev _ s ac ns h) ?_; rw [hv]; refine Ev.pos rfl ?_; refine Ev.bind (a := true) (Ev.const ?_) (Ev.pos rfl (Ev.now _)); unfold spec_l00In.f; simp; omega
    ·refine Ev.pos rfl (Ev.bind hs ?_); refine Ev.bind (a := (tabN (L + 1) r.1.length (waysF 1152921504606846976 (wd n) r.1 r.2), (n : Int), (0 : Int))) ⟨0, fun k _ => ?_⟩ (Ev.const ?_)
     ·unfold spec_l01Ways.f; have hq : waysQ r.1 r.2 (L : Int) 1152921504606846976 := ⟨by rw [hrow]; exact d1, d2, by omega, by rw [hrow]; omega, by omega, by omega, by omega, by omega⟩; rw [if_pos hq, hrow]; simp only [Int.toNat_natCast]; rfl
     ·unfold waysAt
      have e1 : rdR (tabN (L + 1) r.1.length (waysF 1152921504606846976 (wd n) r.1 r.2)) (L : Int) = tabR r.1.length (waysF 1152921504606846976 (wd n) r.1 r.2 L) := by
       simp [rdR, rdOf, tabN, List.getD_eq_getElem?_getD]
      simp only; rw [e1, if_pos ⟨⟨by omega, by rw [tabN_len]; omega⟩, by omega, by rw [tabR_len]; omega⟩]; have e2 := tabR_at d2 (waysF 1152921504606846976 (wd n) r.1 r.2 L); rw [show rd (tabR r.1.length (waysF 1152921504606846976 (wd n) r.1 r.2 L)) 0 = waysF 1152921504606846976 (wd n) r.1 r.2 L 0 from e2]; unfold waysF; rw [show (((0 : Nat) : Int)) = 0 from rfl, hcs L hL]
   ·unfold impl_CountTuples.f; refine Ev.bind (impl_ValidRelation_ev _ s ac ns h) ?_; rw [hv]; refine Ev.pos rfl (Ev.bind (a := true) (Ev.const ?_) (Ev.pos rfl (Ev.bind (tidyOf_ev h hi) ?_)))
    ·unfold impl_isLength.f impl_within.f; simp; omega
    ·refine Ev.bind (counts_ev d1 rfl d2 (by omega) (by omega) hright hL hb) ?_; refine Ev.pos (by omega) (Ev.pos (by rw [tabR_len]; omega) ?_); refine Ev.const ?_; have e2 := tabR_at (show L < L + 1 by omega) (fun m => ((cnt (wd n) r.1 r.2 m 0 : Nat) : Int)); rw [e2]
  ·refine ⟨(0, 2), ?_, ?_⟩
   ·unfold spec_CountTuples.f; refine Ev.bind (a := ((2 : Int), t, s)) ?_ (Ev.neg (by simp) (Ev.now _)); unfold spec_l01Asked.f; refine Ev.bind (spec_ok_ev _ s ac ns h) ?_; rw [hv]; refine Ev.pos rfl ?_; refine Ev.bind (a := false) (Ev.const ?_) (Ev.neg (by simp) (Ev.now _)); unfold spec_l00In.f; simp; omega
   ·unfold impl_CountTuples.f; refine Ev.bind (impl_ValidRelation_ev _ s ac ns h) ?_; rw [hv]; refine Ev.pos rfl (Ev.bind (a := false) (Ev.const ?_) (Ev.neg (by simp) (Ev.now _))); unfold impl_isLength.f impl_within.f; simp; omega
 ·rw [Bool.not_eq_true] at hv; refine ⟨(0, 1), ?_, ?_⟩
  ·unfold spec_CountTuples.f; refine Ev.bind (a := ((1 : Int), t, s)) ?_ (Ev.neg (by simp) (Ev.now _)); unfold spec_l01Asked.f; refine Ev.bind (spec_ok_ev _ s ac ns h) ?_; rw [hv]; exact Ev.neg (by simp) (Ev.now _)
  ·unfold impl_CountTuples.f; refine Ev.bind (impl_ValidRelation_ev _ s ac ns h) ?_; rw [hv]; exact Ev.neg (by simp) (Ev.now _)
theorem FnExactCountTuples (t s : Int) (ac : List Bool) (ns : List (List Int)) (a : Int) (h2 : ac.length ≤ 9223372036854775807) (h3 : ns.length ≤ 9223372036854775807) (hr : ∀ x ∈ ns, x.length ≤ 9223372036854775807) : ∃ k, laws_FnExactCountTuples.f k t s ac ns a = some true := by
 apply Ev.rounds; unfold laws_FnExactCountTuples.f; obtain ⟨n, e1, e2, e3⟩ := szRelation_ev t s ac ns 1048576 (by omega) h2 h3 hr; refine Ev.bind e1 ?_; by_cases hn : n < 0
 ·exact Ev.pos hn (Ev.const rfl)
 ·have hz := e3 (by omega); obtain ⟨⟨r1, r2⟩, hS, hI⟩ := countTuples_both (t := t) (s := s) (a := a) hz; refine Ev.neg hn ?_; refine Ev.guard (toRelation_ev t s ac ns hz) ?_; refine Ev.bind hS ?_; refine Ev.guard hI ?_; exact Ev.guard (eqRelation_ev t s ac ns hz) (Ev.now _)
end Go.Proofs.YtelicdmaohllgaaDoor.Pure
