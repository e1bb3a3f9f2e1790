import Derived.Test.YtocfcpicleomcaaDoorSO5
import Derived.Test.YtocfcpicleomcaaDoorSO7
import Derived.Test.YtocfcpicleomcaaDoorSO8
import Derived.Test.YtocfcpicleomcaaDoorSO4
import Derived.Test.YtocfcpicleomcaaDoorSO6
import Derived.Test.YtocfcpicleomcaaDoorSO2
namespace Go.Proofs.YtocfcpicleomcaaDoor.X
set_option maxHeartbeats 16000000
set_option maxRecDepth 100000
open Go.RowKit Go.Proofs.YtocfcpicleomcaaDoorW.PrintWords Go.Proofs.YtocfcpicleomcaaDoorW.PrintLast Go.Proofs.YtocfcpicleomcaaDoorW.PrintMore
set_option linter.unusedVariables false
set_option linter.unusedSimpArgs false
section
variable {K K' : Type} [DecidableEq K] [DecidableEq K'] {φ : K → K'} {S : K → Prop}
omit [DecidableEq K] [DecidableEq K'] in
theorem mem_map_inj (hinj : ∀ a b, S a → S b → φ a = φ b → a = b) {l : List K} (hl : ∀ k ∈ l, S k) {t : K} (ht : S t) : φ t ∈ l.map φ ↔ t ∈ l := by
 constructor
 ·intro h; obtain ⟨a, ha, he⟩ := List.mem_map.1 h; exact hinj _ _ (hl a ha) ht he ▸ ha
 ·exact List.mem_map_of_mem
theorem idxOf_map_inj (hinj : ∀ a b, S a → S b → φ a = φ b → a = b) {l : List K} (hl : ∀ k ∈ l, S k) {t : K} (ht : S t) : (l.map φ).idxOf (φ t) = l.idxOf t := by
 induction l with
 | nil => rfl
 | cons a l ih =>
  rw [List.map_cons, List.idxOf_cons, List.idxOf_cons, ih (fun k hk => hl k (List.mem_cons_of_mem _ hk))]; by_cases e : a = t
  ·subst e; simp
  ·have e' : ¬ φ a = φ t := fun h => e (hinj _ _ (hl a (by simp)) ht h); rw [beq_eq_false_iff_ne.2 e, beq_eq_false_iff_ne.2 e']
theorem growRow_map (hinj : ∀ a b, S a → S b → φ a = φ b → a = b) {good : K → Bool} {good' : K' → Bool} {nx : Int → Option K} {nx' : Int → Option K'} {W : Nat}
  (hnx : ∀ c k, 0 ≤ c → c < (W : Int) → nx c = some k → S k ∧ nx' c = some (φ k) ∧ good' (φ k) = true) :
  ∀ (m : Nat) (c : Int) (l : List K) (row : List Int) (l1 : List K) (row1 : List Int), 0 ≤ c → c + m = (W : Int) → (∀ k ∈ l, S k) → growRow good nx m c l row = some (l1, row1) →
   growRow good' nx' m c (l.map φ) row = some (l1.map φ, row1) ∧ ∀ k ∈ l1, S k := by
 intro m
 induction m with
 | zero =>
  intro c l row l1 row1 _ _ hl h
  simp only [growRow, Option.some.injEq, Prod.mk.injEq] at h ⊢
  obtain ⟨rfl, rfl⟩ := h; exact ⟨⟨rfl, rfl⟩, hl⟩
 | succ m ih =>
  intro c l row l1 row1 h0 h1 hl h; simp only [growRow] at h; obtain ⟨t, ht, h⟩ := oB h
  split at h
  ·obtain ⟨hS, hn, hg⟩ := hnx c t h0 (by omega) ht; simp only [growRow, hn, Option.bind_some, hg, if_true]; rw [idxOf_map_inj hinj hl hS, List.length_map]; by_cases e : t ∈ l
   ·rw [if_pos e] at h; rw [if_pos ((mem_map_inj hinj hl hS).2 e)]; exact ih _ _ _ _ _ (by omega) (by omega) hl h
   ·rw [if_neg e] at h; rw [if_neg (fun h => e ((mem_map_inj hinj hl hS).1 h))]
    split at h
    ·next hlt =>
     rw [if_pos hlt]; have := ih _ (l ++ [t]) _ _ _ (by omega) (by omega) (by intro k hk; rcases List.mem_append.1 hk with hk | hk; exact hl k hk; simp at hk; exact hk ▸ hS) h
     simpa using this
    ·cases h
  ·cases h
theorem growL_map (hinj : ∀ a b, S a → S b → φ a = φ b → a = b) {good : K → Bool} {good' : K' → Bool} {acc : K → Option Bool} {acc' : K' → Option Bool} {next : K → Int → Option K} {next' : K' → Int → Option K'} {W : Nat}
  (hnx : ∀ k c t, S k → 0 ≤ c → c < (W : Int) → next k c = some t → S t ∧ next' (φ k) c = some (φ t) ∧ good' (φ t) = true) (hac : ∀ k b, S k → acc k = some b → acc' (φ k) = some b) :
  ∀ (f : Nat) (l : List K) (bs : List Bool) (rs : List (List Int)) (r : List Bool × List (List Int)), (∀ k ∈ l, S k) → growL good acc next W f l bs rs = some r → growL good' acc' next' W f (l.map φ) bs rs = some r := by
 intro f
 induction f with
 | zero => intro l bs rs r _ h; simp [growL] at h
 | succ f ih =>
  intro l bs rs r hl h
  simp only [growL] at h ⊢
  rw [List.getElem?_map]
  cases e : l[bs.length]? with
  | none => rw [e] at h; simpa using h
  | some k =>
   rw [e] at h
   simp only [Option.map_some] at h ⊢
   have hk : S k := hl k (List.mem_of_getElem? e); obtain ⟨p, hp, h⟩ := oB h; obtain ⟨b, hb, h⟩ := oB h; obtain ⟨hr, hS⟩ := growRow_map (W := W) hinj (fun c t c0 c1 ht => hnx k c t hk c0 c1 ht) W 0 l [] p.1 p.2 (by omega) (by omega) hl hp; rw [hr]; simp only [Option.bind_some, hac k b hk hb]; exact ih _ _ _ _ hS h
theorem growL_more {good : K → Bool} {acc : K → Option Bool} {next : K → Int → Option K} {W : Nat} : ∀ (f d : Nat) (l : List K) (bs : List Bool) (rs : List (List Int)) (r : List Bool × List (List Int)), growL good acc next W f l bs rs = some r → growL good acc next W (f + d) l bs rs = some r := by
 intro f
 induction f with
 | zero => intro d l bs rs r h; simp [growL] at h
 | succ f ih =>
  intro d l bs rs r h; rw [Nat.add_right_comm]
  simp only [growL] at h ⊢
  cases e : l[bs.length]? with
  | none => rw [e] at h; exact h
  | some k =>
   rw [e] at h
   simp only at h ⊢
   obtain ⟨p, hp, h⟩ := oB h; obtain ⟨b, hb, h⟩ := oB h; rw [hp]; simp only [Option.bind_some, hb]; exact ih d _ _ _ _ h
theorem growL_same {good : K → Bool} {acc : K → Option Bool} {next : K → Int → Option K} {W f g : Nat} {l : List K} {bs : List Bool} {rs : List (List Int)} {r s : List Bool × List (List Int)} (h : growL good acc next W f l bs rs = some r) (h2 : growL good acc next W g l bs rs = some s) : r = s := by
 have a := growL_more f g _ _ _ _ h; have b := growL_more g f _ _ _ _ h2; rw [Nat.add_comm] at b; exact Option.some.inj (a.symm.trans b)
theorem nodup_len {K : Type} [DecidableEq K] : ∀ (a b : List K), a.Nodup → (∀ k ∈ a, k ∈ b) → a.length ≤ b.length := by
 intro a
 induction a with
 | nil => intro b _ _; simp
 | cons x a ih =>
  intro b hn hs; have hx : x ∈ b := hs x (by simp); have hn' := List.nodup_cons.1 hn; have := ih (b.erase x) hn'.2 (fun k hk => (List.mem_erase_of_ne (fun e : k = x => hn'.1 (by rw [← e]; exact hk))).2 (hs k (by simp [hk]))); rw [List.length_erase_of_mem hx] at this; have := List.length_pos_of_mem hx; simp only [List.length_cons]; omega
theorem growRow_some {U : List K} (hU : U.length ≤ 1900000) {good : K → Bool} {nx : Int → Option K} {W : Nat} (hnx : ∀ c, 0 ≤ c → c < (W : Int) → ∃ t, nx c = some t ∧ good t = true ∧ t ∈ U) :
  ∀ (m : Nat) (c : Int) (l : List K) (row : List Int), 0 ≤ c → c + m = (W : Int) → l.Nodup → (∀ k ∈ l, k ∈ U) → ∃ l1 row1, growRow good nx m c l row = some (l ++ l1, row ++ row1) ∧ (l ++ l1).Nodup ∧ (∀ k ∈ l ++ l1, k ∈ U) ∧ row1.length = m ∧ ∀ x ∈ row1, 0 ≤ x ∧ x < ((l ++ l1).length : Int) := by
 intro m
 induction m with
 | zero => intro c l row _ _ hn hl; exact ⟨[], [], by simp [growRow], by simpa using hn, by simpa using hl, rfl, by simp⟩
 | succ m ih =>
  intro c l row h0 h1 hn hl; obtain ⟨t, ht, hg, hu⟩ := hnx c h0 (by omega); simp only [growRow, ht, Option.bind_some, hg, if_true]; by_cases e : t ∈ l
  ·rw [if_pos e]; obtain ⟨l1, row1, h, hn1, hl1, hr, hx⟩ := ih (c + 1) l (row ++ [(l.idxOf t : Int)]) (by omega) (by omega) hn hl; refine ⟨l1, (l.idxOf t : Int) :: row1, by simpa using h, hn1, hl1, by simp [hr], ?_⟩; intro x hx'
   rcases List.mem_cons.1 hx' with rfl | hx'
   ·have := List.idxOf_lt_length_iff.2 e; simp only [List.length_append]; omega
   ·exact hx x hx'
  ·rw [if_neg e]; have hn' : (l ++ [t]).Nodup := List.nodup_append.2 ⟨hn, by simp, fun a ha b hb => by simp at hb; subst hb; exact fun he => e (he ▸ ha)⟩
   have hl' : ∀ k ∈ l ++ [t], k ∈ U := by
    intro k hk
    rcases List.mem_append.1 hk with hk | hk
    ·exact hl k hk
    ·simp at hk; exact hk ▸ hu
   have := nodup_len _ _ hn' hl'; rw [if_pos (by simp at this; omega)]; obtain ⟨l1, row1, h, hn1, hl1, hr, hx⟩ := ih (c + 1) (l ++ [t]) (row ++ [(l.length : Int)]) (by omega) (by omega) hn' hl'; refine ⟨t :: l1, (l.length : Int) :: row1, by simpa using h, by simpa using hn1, by simpa using hl1, by simp [hr], ?_⟩; intro x hx'
   rcases List.mem_cons.1 hx' with rfl | hx'
   ·simp only [List.length_append, List.length_cons]; omega
   ·simpa using hx x hx'
theorem growL_some {U : List K} (hU : U.length ≤ 1900000) {good : K → Bool} {acc : K → Option Bool} {next : K → Int → Option K} {W : Nat} (hnx : ∀ k c, k ∈ U → 0 ≤ c → c < (W : Int) → ∃ t, next k c = some t ∧ good t = true ∧ t ∈ U) (hac : ∀ k ∈ U, ∃ b, acc k = some b) :
  ∀ (f : Nat) (l : List K) (bs : List Bool) (rs : List (List Int)), l.Nodup → (∀ k ∈ l, k ∈ U) → bs.length ≤ l.length → U.length < f + bs.length → ∃ r, growL good acc next W f l bs rs = some r := by
 intro f
 induction f with
 | zero =>
  intro l bs rs hn hl hb hf; have := nodup_len _ _ hn hl; omega
 | succ f ih =>
  intro l bs rs hn hl hb hf; simp only [growL]
  cases e : l[bs.length]? with
  | none => exact ⟨_, rfl⟩
  | some k =>
   simp only; have hk : k ∈ U := hl k (List.mem_of_getElem? e); obtain ⟨l1, row1, h, hn1, hl1, _⟩ := growRow_some hU (fun c c0 c1 => hnx k c hk c0 c1) W 0 l [] (by omega) (by omega) hn hl; obtain ⟨b, hb'⟩ := hac k hk; rw [h]; simp only [Option.bind_some, hb']; have : bs.length < l.length := (List.getElem?_eq_some_iff.1 e).1; exact ih _ _ _ hn1 hl1 (by simp; omega) (by simp; omega)
end
section
variable (W n : Nat) (ac : List Bool) (ns : List (List Int))
/-- One round: g1 parts what g parts, or what a column leads to parts by g; its values are 0 .. m - 1, each met. -/
structure Finer (g g1 : Int → Int) (m : Nat) : Prop where
 iff : ∀ i j, 0 ≤ i → i < (n : Int) → 0 ≤ j → j < (n : Int) → (g1 i = g1 j ↔ (g i = g j ∧ ∀ c, 0 ≤ c → c < (W : Int) → g (stp ns i c) = g (stp ns j c)))
 lo : ∀ i, 0 ≤ i → i < (n : Int) → 0 ≤ g1 i ∧ g1 i < (m : Int)
 met : ∀ k : Nat, k < m → ∃ i, 0 ≤ i ∧ i < (n : Int) ∧ g1 i = (k : Int)
/-- What holds of the classes all the time. -/
structure ClassOK (g : Int → Int) : Prop where
 coarse : ∀ i j, 0 ≤ i → i < (n : Int) → 0 ≤ j → j < (n : Int) → lng W ac ns i = lng W ac ns j → g i = g j
 acc : ∀ i j, 0 ≤ i → i < (n : Int) → 0 ≤ j → j < (n : Int) → g i = g j → rdOf false ac i = rdOf false ac j
/-- The classes are those of the languages. -/
def ClassEq (g : Int → Int) : Prop := ∀ i j, 0 ≤ i → i < (n : Int) → 0 ≤ j → j < (n : Int) → (g i = g j ↔ lng W ac ns i = lng W ac ns j)
variable {W n ac ns} {g g1 : Int → Int} {m : Nat}
theorem lng_stp {i j : Int} (h : lng W ac ns i = lng W ac ns j) {c : Int} (c0 : 0 ≤ c) (c1 : c < (W : Int)) : lng W ac ns (stp ns i c) = lng W ac ns (stp ns j c) := by
 funext w
 have := congrFun h (c :: w)
 simpa [lng, c0, c1] using this
theorem ClassOK.next (hT : TableOK W n ns) (h : ClassOK W n ac ns g) (hf : Finer W n ns g g1 m) : ClassOK W n ac ns g1 := by
 refine ⟨fun i j i0 i1 j0 j1 e => (hf.iff i j i0 i1 j0 j1).2 ⟨h.coarse i j i0 i1 j0 j1 e, fun c c0 c1 => ?_⟩, fun i j i0 i1 j0 j1 e => h.acc i j i0 i1 j0 j1 ((hf.iff i j i0 i1 j0 j1).1 e).1⟩; have a := hT.stpd i0 i1 c0 c1; have b := hT.stpd j0 j1 c0 c1; exact h.coarse _ _ a.1 a.2 b.1 b.2 (lng_stp e c0 c1)
/-- Numbers from 0 on that are all met lie in a list that is as long at least. -/
theorem covers_len : ∀ (m : Nat) (l : List Int), (∀ k : Nat, k < m → (k : Int) ∈ l) → m ≤ l.length := by
 intro m l h
 have := nodup_len ((List.range m).map (fun k : Nat => (k : Int))) l (List.pairwise_map.2 (List.nodup_range.imp (fun {a b} e h => e (by have h : (a : Int) = (b : Int) := h; omega)))) (by
  intro k hk; obtain ⟨a, ha, rfl⟩ := List.mem_map.1 hk
  exact h a (List.mem_range.1 ha))
 simpa using this
theorem Finer.reps (hf : Finer W n ns g g1 m) : ∃ reps : List Int, reps.length = m ∧ ∀ k : Nat, k < m → 0 ≤ rd reps k ∧ rd reps k < (n : Int) ∧ g1 (rd reps k) = (k : Int) := by
 have : ∀ d : Nat, d ≤ m → ∃ reps : List Int, reps.length = d ∧ ∀ k : Nat, k < d → 0 ≤ rd reps k ∧ rd reps k < (n : Int) ∧ g1 (rd reps k) = (k : Int) := by
  intro d
  induction d with
  | zero => exact fun _ => ⟨[], rfl, fun k hk => by omega⟩
  | succ d ih =>
   intro hd; obtain ⟨reps, hl, hr⟩ := ih (by omega); obtain ⟨i, i0, i1, hi⟩ := hf.met d (by omega); refine ⟨reps ++ [i], by simp [hl], fun k hk => ?_⟩; by_cases e : k < d
   ·(have : rd (reps ++ [i]) k = rd reps k := by simp [rd, List.getD_eq_getElem?_getD, List.getElem?_append_left (show k < reps.length by omega)]); rw [this]; exact hr k e
   ·(obtain rfl : k = d := by omega); (have : rd (reps ++ [i]) k = i := by simp [rd, List.getD_eq_getElem?_getD, ← hl]); rw [this]; exact ⟨i0, i1, hi⟩
 exact this m (Nat.le_refl _)
theorem rd_mem {l : List Int} {k : Nat} (h : k < l.length) : rd l k ∈ l := by
 simp only [rd, Int.toNat_natCast, List.getD_eq_getElem?_getD, List.getElem?_eq_getElem h, Option.getD_some]; exact List.getElem_mem h
/-- Finer classes are as many at least. -/
theorem Finer.le (hf : Finer W n ns g g1 m) {m0 : Nat} (hm : ∀ k : Nat, k < m0 → ∃ i, 0 ≤ i ∧ i < (n : Int) ∧ g i = (k : Int)) : m0 ≤ m := by
 obtain ⟨reps, hl, hr⟩ := hf.reps
 have := covers_len m0 (reps.map g) (by
  intro k hk; obtain ⟨i, i0, i1, hi⟩ := hm k hk; obtain ⟨a0, a1⟩ := hf.lo i i0 i1; (have hk1 : (g1 i).toNat < m := by omega); obtain ⟨b0, b1, b2⟩ := hr _ hk1; (have e : g1 (rd reps (g1 i).toNat) = g1 i := by rw [b2]; omega); rw [← hi, ← ((hf.iff _ _ b0 b1 i0 i1).1 e).1]
  exact List.mem_map_of_mem (rd_mem (by omega)))
 simpa [hl] using this
/-- As many classes as before: the same ones. -/
theorem Finer.same (hf : Finer W n ns g g1 m) (hm : ∀ k : Nat, k < m → ∃ i, 0 ≤ i ∧ i < (n : Int) ∧ g i = (k : Int)) {i j : Int} (i0 : 0 ≤ i) (i1 : i < (n : Int)) (j0 : 0 ≤ j) (j1 : j < (n : Int)) (h : g i = g j) : g1 i = g1 j := by
 obtain ⟨reps, hl, hr⟩ := hf.reps; refine Classical.byContradiction fun hne => ?_; obtain ⟨a0, a1⟩ := hf.lo i i0 i1; obtain ⟨b0, b1⟩ := hf.lo j j0 j1
 have key : ∀ x, 0 ≤ x → x < (n : Int) → g (rd reps (g1 x).toNat) = g x := by
  intro x x0 x1; obtain ⟨c0, c1⟩ := hf.lo x x0 x1; obtain ⟨d0, d1, d2⟩ := hr (g1 x).toNat (by omega); exact ((hf.iff _ _ d0 d1 x0 x1).1 (by rw [d2]; omega)).1
 have := covers_len m ((reps.eraseIdx (g1 j).toNat).map g) (by
  intro k hk; obtain ⟨x, x0, x1, hx⟩ := hm k hk; obtain ⟨c0, c1⟩ := hf.lo x x0 x1
  -- the place of x, or of i where x stands at j's
  have pos : ∃ p : Nat, p < m ∧ p ≠ (g1 j).toNat ∧ g (rd reps p) = (k : Int) := by
   by_cases e : g1 x = g1 j
   ·refine ⟨(g1 i).toNat, by omega, by omega, ?_⟩; rw [key i i0 i1, h, ← ((hf.iff x j x0 x1 j0 j1).1 e).1, hx]
   ·exact ⟨(g1 x).toNat, by omega, by omega, by rw [key x x0 x1, hx]⟩
  obtain ⟨p, hp, hpj, hg⟩ := pos; rw [← hg]; refine List.mem_map_of_mem ?_; rw [List.mem_eraseIdx_iff_getElem?]
  exact ⟨p, hpj, by simp [rd, List.getD_eq_getElem?_getD, List.getElem?_eq_getElem (show p < reps.length by omega)]⟩)
 rw [List.length_map, List.length_eraseIdx_of_lt (by omega)] at this; omega
theorem ClassOK.eq (hT : TableOK W n ns) (h : ClassOK W n ac ns g) (hf : Finer W n ns g g1 m) (hm : ∀ k : Nat, k < m → ∃ i, 0 ≤ i ∧ i < (n : Int) ∧ g i = (k : Int)) : ClassEq W n ac ns g1 := by
 have h1 := h.next hT hf; intro i j i0 i1 j0 j1; refine ⟨fun e => ?_, h1.coarse i j i0 i1 j0 j1⟩
 funext w
 induction w generalizing i j with
 | nil => simpa [lng] using h1.acc i j i0 i1 j0 j1 e
 | cons c w ih =>
  simp only [lng]; by_cases c0 : 0 ≤ c
  ·by_cases c1 : c < (W : Int)
   ·have a := hT.stpd i0 i1 c0 c1; have b := hT.stpd j0 j1 c0 c1; rw [ih _ _ a.1 a.2 b.1 b.2 (hf.same hm a.1 a.2 b.1 b.2 (((hf.iff i j i0 i1 j0 j1).1 e).2 c c0 c1))]
   ·simp [c1]
  ·simp [c0]
end
theorem decDigits_no44 : ∀ (u : Nat), ∀ c ∈ Lib.decDigits u, c ≠ 44 ∧ c ≠ 45 := by
 intro u
 induction u using Nat.strongRecOn with
 | _ u ih =>
  intro c hc; (have key : ∀ d < 10, UInt8.ofNat (48 + d) ≠ 44 ∧ UInt8.ofNat (48 + d) ≠ 45 := by decide); rw [Lib.decDigits] at hc
  split at hc
  ·next h =>
   obtain rfl := List.mem_singleton.1 hc; exact key u h
  ·next h =>
   rcases List.mem_append.1 hc with hc | hc
   ·exact ih (u / 10) (by omega) c hc
   ·obtain rfl := List.mem_singleton.1 hc; exact key (u % 10) (by omega)
theorem digit_inj {a b : Nat} (ha : a < 10) (hb : b < 10) (h : UInt8.ofNat (48 + a) = UInt8.ofNat (48 + b)) : a = b := by
 have := congrArg UInt8.toNat h; simp at this; omega
theorem decDigits_ne (u : Nat) : Lib.decDigits u ≠ [] := by
 rw [Lib.decDigits]
 split <;> simp
theorem decDigits_inj : ∀ (u v : Nat), Lib.decDigits u = Lib.decDigits v → u = v := by
 intro u
 induction u using Nat.strongRecOn with
 | _ u ih =>
  intro v h; rw [Lib.decDigits, Lib.decDigits.eq_def v] at h
  split at h
  ·next hu =>
   split at h
   ·next hv => exact digit_inj hu hv (by simpa using h)
   ·next hv =>
    have := List.append_inj_left' (s₁ := []) h (by simp); exact absurd this.symm (decDigits_ne _)
  ·next hu =>
   split at h
   ·next hv =>
    have := List.append_inj_left' (s₂ := []) h (by simp); exact absurd this (decDigits_ne _)
   ·next hv =>
    have h1 := List.append_inj_left' h (by simp); have h2 := List.append_inj_right' h (by simp); have := ih (u / 10) (by omega) _ h1; have := digit_inj (a := u % 10) (b := v % 10) (by omega) (by omega) (by simpa using h2); omega
theorem itoa_no44 (n : Int) : ∀ c ∈ Lib.itoa n, c ≠ 44 := by
 intro c hc; unfold Lib.itoa at hc
 split at hc
 ·rcases List.mem_cons.1 hc with rfl | hc
  ·decide
  ·exact (decDigits_no44 _ c hc).1
 ·exact (decDigits_no44 _ c hc).1
theorem itoa_inj (a b : Int) (h : Lib.itoa a = Lib.itoa b) : a = b := by
 unfold Lib.itoa at h
 split at h
 ·next ha =>
  split at h
  ·next hb =>
   injection h with _ h; have := decDigits_inj _ _ h; omega
  ·next hb => exact absurd rfl (decDigits_no44 _ 45 (by rw [← h]; simp)).2
 ·next ha =>
  split at h
  ·next hb => exact absurd rfl (decDigits_no44 _ 45 (by rw [h]; simp)).2
  ·next hb =>
   have := decDigits_inj _ _ h; omega
theorem cut44 : ∀ (a b r s : List UInt8), (∀ c ∈ a, c ≠ 44) → (∀ c ∈ b, c ≠ 44) → (r = [] ∨ ∃ t, r = 44 :: t) → (s = [] ∨ ∃ t, s = 44 :: t) → a ++ r = b ++ s → a = b ∧ r = s := by
 intro a
 induction a with
 | nil =>
  intro b r s _ hb hr hs h
  cases b with
  | nil => exact ⟨rfl, h⟩
  | cons y b =>
   rcases hr with rfl | ⟨t, rfl⟩
   ·simp at h
   ·simp only [List.nil_append, List.cons_append, List.cons.injEq] at h; exact absurd h.1.symm (hb y (by simp))
 | cons x a ih =>
  intro b r s ha hb hr hs h
  cases b with
  | nil =>
   rcases hs with rfl | ⟨t, rfl⟩
   ·simp at h
   ·simp only [List.nil_append, List.cons_append, List.cons.injEq] at h; exact absurd h.1 (ha x (by simp))
  | cons y b =>
   simp only [List.cons_append, List.cons.injEq] at h; obtain ⟨e, h2⟩ := ih b r s (fun c hc => ha c (by simp [hc])) (fun c hc => hb c (by simp [hc])) hr hs h.2; exact ⟨by rw [h.1, e], h2⟩
def tailKey (l : List Int) : List UInt8 := l.flatMap fun g => 44 :: Lib.itoa g
theorem tailKey_form (l : List Int) : tailKey l = [] ∨ ∃ t, tailKey l = 44 :: t := by
 cases l with
 | nil => exact .inl rfl
 | cons x l => exact .inr ⟨_, by simp [tailKey]; rfl⟩
theorem tailKey_inj : ∀ (k l : List Int), tailKey k = tailKey l → k = l := by
 intro k
 induction k with
 | nil =>
  intro l h
  cases l with
  | nil => rfl
  | cons y l => simp [tailKey] at h
 | cons x k ih =>
  intro l h
  cases l with
  | nil => simp [tailKey] at h
  | cons y l =>
   (have h' : Lib.itoa x ++ tailKey k = Lib.itoa y ++ tailKey l := by simpa [tailKey] using h); obtain ⟨e, h2⟩ := cut44 _ _ _ _ (itoa_no44 x) (itoa_no44 y) (tailKey_form k) (tailKey_form l) h'; rw [itoa_inj _ _ e, ih l h2]
theorem at1_in {α : Type} {d : α} {xs : List α} {i : Int} (h0 : 0 ≤ i) (h1 : i < (xs.length : Int)) : at1 d xs i = some (rdOf d xs i) := by
 unfold at1; rw [if_pos ⟨h0, h1⟩]
theorem keyL_eq (group : List Int) : ∀ (row : List Int) (key : List UInt8), (∀ q ∈ row, 0 ≤ q ∧ q < (group.length : Int)) → keyL group row key = some (key ++ tailKey (row.map (rd group))) := by
 intro row
 induction row with
 | nil => intro key _; simp [keyL, tailKey]
 | cons q r ih =>
  intro key h; have hq := h q (by simp); rw [keyL, at1_in hq.1 hq.2]; simp only [Option.bind_some]; rw [ih _ (fun q hq => h q (by simp [hq]))]; simp [tailKey, rdOf, rd]
section
variable {κ : Type} [DecidableEq κ]
def roundG : List κ → Nat → List κ → List Int → List κ × List Int
 | [], _, keys, next => (keys, next)
 | k :: ks, i, keys, next => if k ∈ keys then roundG ks (i + 1) keys (next.set i (keys.idxOf k : Int)) else roundG ks (i + 1) (keys ++ [k]) (next.set i (keys.length : Int))
theorem set_snoc {a b : List Int} {x y : Int} {i : Nat} (h : i = a.length) : (a ++ y :: b).set i x = a ++ x :: b := by
 subst h; simp
theorem roundG_eq : ∀ (ks : List κ) (i : Nat) (keys : List κ) (done rest : List Int), done.length = i → rest.length = ks.length → keys.Nodup →
  ∃ D, roundG ks i keys (done ++ rest) = (keys ++ D, done ++ ks.map fun k => ((keys ++ D).idxOf k : Int)) ∧ (keys ++ D).Nodup ∧ (∀ k ∈ ks, k ∈ keys ++ D) ∧ ∀ d ∈ D, d ∈ ks := by
 intro ks
 induction ks with
 | nil =>
  intro i keys done rest h1 h2 h3; (have : rest = [] := by cases rest; rfl; simp at h2); subst this; exact ⟨[], by simp [roundG], by simpa using h3, by simp, by simp⟩
 | cons k ks ih =>
  intro i keys done rest h1 h2 h3
  cases rest with
  | nil => simp at h2
  | cons y rest =>
   simp only [roundG]; rw [set_snoc h1.symm, set_snoc h1.symm]; by_cases e : k ∈ keys
   ·rw [if_pos e]; obtain ⟨D, hr, hn, hk, hd⟩ := ih (i + 1) keys (done ++ [(keys.idxOf k : Int)]) rest (by simp [h1]) (by simpa using h2) h3; refine ⟨D, ?_, hn, ?_, fun d hd' => by simp [hd d hd']⟩
    ·rw [show done ++ (keys.idxOf k : Int) :: rest = done ++ [(keys.idxOf k : Int)] ++ rest by simp, hr]; simp [List.idxOf_append, e]
    ·intro x hx
     rcases List.mem_cons.1 hx with rfl | hx
     ·simp [e]
     ·exact hk x hx
   ·rw [if_neg e]; have hn' : (keys ++ [k]).Nodup := List.nodup_append.2 ⟨h3, by simp, fun a ha b hb => by simp at hb; subst hb; exact fun he => e (he ▸ ha)⟩; obtain ⟨D, hr, hn, hk, hd⟩ := ih (i + 1) (keys ++ [k]) (done ++ [(keys.length : Int)]) rest (by simp [h1]) (by simpa using h2) hn'; refine ⟨k :: D, ?_, by simpa using hn, ?_, ?_⟩
    ·rw [show done ++ (keys.length : Int) :: rest = done ++ [(keys.length : Int)] ++ rest by simp, hr]; simp [List.idxOf_append, e]
    ·intro x hx
     rcases List.mem_cons.1 hx with rfl | hx
     ·simp
     ·simpa using hk x hx
    ·intro d hd'
     rcases List.mem_cons.1 hd' with rfl | hd'
     ·simp
     ·simp [hd d hd']
/-- A round over keys that tell what 'Finer' asks. -/
theorem round_finer {W n : Nat} {ns : List (List Int)} {g : Int → Int} {ks : List κ} (hl : ks.length = n)
  (hk : ∀ i j : Nat, i < n → j < n → (ks[i]? = ks[j]? ↔ (g i = g j ∧ ∀ c, 0 ≤ c → c < (W : Int) → g (stp ns i c) = g (stp ns j c)))) :
  ∃ D l, roundG ks 0 [] (List.replicate n 0) = (D, l) ∧ l.length = n ∧ D.length ≤ n ∧ Finer W n ns g (rd l) D.length := by
 obtain ⟨D, hr, hn, hm, hd⟩ := roundG_eq ks 0 [] [] (List.replicate n 0) rfl (by simp [hl]) (by simp); simp only [List.nil_append] at hr hn hm hd; refine ⟨D, _, hr, by simp [hl], ?_, ?_⟩
 ·have := nodup_len D ks hn hd; omega
 have hrd : ∀ i : Nat, i < n → ∃ k, ks[i]? = some k ∧ k ∈ D ∧ rd (ks.map fun k => (D.idxOf k : Int)) i = (D.idxOf k : Int) := by
  intro i hi; (have hi' : i < ks.length := by omega); refine ⟨ks[i], List.getElem?_eq_getElem hi', hm _ (List.getElem_mem hi'), ?_⟩; simp [rd, List.getD_eq_getElem?_getD, List.getElem?_eq_getElem hi']
 have cast : ∀ i : Int, 0 ≤ i → i < (n : Int) → ∃ m : Nat, i = (m : Int) ∧ m < n := fun i h0 h1 => ⟨i.toNat, by omega, by omega⟩; refine ⟨?_, ?_, ?_⟩
 ·intro i j i0 i1 j0 j1; obtain ⟨i, rfl, hi⟩ := cast i i0 i1; obtain ⟨j, rfl, hj⟩ := cast j j0 j1; obtain ⟨a, ha, ham, har⟩ := hrd i hi; obtain ⟨b, hb, hbm, hbr⟩ := hrd j hj; rw [har, hbr, ← hk i j hi hj, ha, hb]; constructor
  ·intro h; (have h' : D.idxOf a = D.idxOf b := by omega); (have e1 : D[D.idxOf a]? = some a := by rw [List.getElem?_eq_getElem (List.idxOf_lt_length_iff.2 ham), List.getElem_idxOf]); (have e2 : D[D.idxOf b]? = some b := by rw [List.getElem?_eq_getElem (List.idxOf_lt_length_iff.2 hbm), List.getElem_idxOf]); rw [← Option.some.inj (e1.symm.trans ((congrArg (fun k => D[k]?) h').trans e2))]
  ·intro h; injection h with h; rw [h]
 ·intro i i0 i1; obtain ⟨i, rfl, hi⟩ := cast i i0 i1; obtain ⟨a, ha, ham, har⟩ := hrd i hi; rw [har]; have := List.idxOf_lt_length_iff.2 ham; omega
 ·intro k hkD; have hmem : D[k] ∈ ks := hd _ (List.getElem_mem hkD); obtain ⟨i, hi, he⟩ := List.getElem_of_mem hmem; refine ⟨(i : Int), by omega, by omega, ?_⟩; obtain ⟨a, ha, ham, har⟩ := hrd i (by omega); rw [har]; rw [List.getElem?_eq_getElem hi, he] at ha; obtain rfl := Option.some.inj ha; rw [hn.idxOf_getElem]
end
def keysM (group : List Int) : List (List Int) → Nat → List (List UInt8)
 | [], _ => []
 | row :: rs, i => (Lib.itoa (rd group i) ++ tailKey (row.map (rd group))) :: keysM group rs (i + 1)
theorem keysM_len (group : List Int) : ∀ rs i, (keysM group rs i).length = rs.length := by
 intro rs
 induction rs with
 | nil => intro i; rfl
 | cons row rs ih => intro i; simp [keysM, ih]
theorem keysM_at (group : List Int) : ∀ (rs : List (List Int)) (i j : Nat), (keysM group rs i)[j]? = (rs[j]?).map fun row => Lib.itoa (rd group ((i + j : Nat) : Int)) ++ tailKey (row.map (rd group)) := by
 intro rs
 induction rs with
 | nil => intro i j; simp [keysM]
 | cons row rs ih =>
  intro i j
  cases j with
  | zero => simp [keysM]
  | succ j =>
   simp only [keysM, List.getElem?_cons_succ, ih]; rw [show i + 1 + j = i + (j + 1) by omega]
theorem roundM_eq (group : List Int) : ∀ (rs : List (List Int)) (i : Nat) (keys : List (List UInt8)) (next : List Int), i + rs.length ≤ group.length → (∀ row ∈ rs, ∀ q ∈ row, 0 ≤ q ∧ q < (group.length : Int)) → roundM group rs i keys next = some (roundG (keysM group rs i) i keys next) := by
 intro rs
 induction rs with
 | nil => intro i keys next _ _; rfl
 | cons row rs ih =>
  intro i keys next hl h; simp only [List.length_cons] at hl; rw [roundM, at1_in (xs := group) (i := (i : Int)) (by omega) (by omega)]; simp only [Option.bind_some]; rw [keyL_eq group row _ (h row (by simp))]; simp only [Option.bind_some, keysM, roundG]; have e : rdOf 0 group (i : Int) = rd group (i : Int) := rfl; rw [e]; unfold idxG
  split
  ·exact ih (i + 1) _ _ (by omega) (fun r hr => h r (by simp [hr]))
  ·exact ih (i + 1) _ _ (by omega) (fun r hr => h r (by simp [hr]))
theorem rd_map {l : List Int} {g : Int → Int} {c : Int} (c0 : 0 ≤ c) (c1 : c < (l.length : Int)) : rd (l.map g) c = g (rd l c) := by
 (have : c.toNat < l.length := by omega); simp [rd, List.getD_eq_getElem?_getD, List.getElem?_eq_getElem this]
theorem map_ext_rd {l k : List Int} {g : Int → Int} {W : Nat} (hl : l.length = W) (hk : k.length = W) : l.map g = k.map g ↔ ∀ c, 0 ≤ c → c < (W : Int) → g (rd l c) = g (rd k c) := by
 constructor
 ·intro h c c0 c1; rw [← rd_map (l := l) (g := g) c0 (by omega), ← rd_map (l := k) (g := g) c0 (by omega), h]
 ·intro h; refine List.ext_getElem (by simp [hl, hk]) fun i h1 h2 => ?_; simp only [List.length_map] at h1 h2; have := h (i : Int) (by omega) (by omega)
  simpa [rd, List.getD_eq_getElem?_getD, List.getElem?_eq_getElem h1, List.getElem?_eq_getElem h2] using this
theorem roundM_finer {W n : Nat} {ns : List (List Int)} (hT : TableOK W n ns) {group : List Int} (hg : group.length = n) :
  ∃ D l, roundM group ns 0 [] (List.replicate group.length 0) = some (D, l) ∧ l.length = n ∧ D.length ≤ n ∧ Finer W n ns (rd group) (rd l) D.length := by
 have hks : (keysM group ns 0).length = n := by rw [keysM_len, hT.1]
 obtain ⟨D, l, hr, hl, hD, hf⟩ := round_finer (W := W) (ns := ns) (g := rd group) hks (by
  intro i j hi hj; (have hi' : i < ns.length := by rw [hT.1]; exact hi); (have hj' : j < ns.length := by rw [hT.1]; exact hj); rw [keysM_at, keysM_at, List.getElem?_eq_getElem hi', List.getElem?_eq_getElem hj']; simp only [Option.map_some, Option.some.injEq, Nat.zero_add]; (have ei : ∀ c, stp ns (i : Int) c = rd ns[i] c := fun c => by simp [stp, List.getD_eq_getElem?_getD, List.getElem?_eq_getElem hi']); (have ej : ∀ c, stp ns (j : Int) c = rd ns[j] c := fun c => by simp [stp, List.getD_eq_getElem?_getD, List.getElem?_eq_getElem hj']); simp only [ei, ej]; rw [← map_ext_rd (hT.2 _ (List.getElem_mem hi')).1 (hT.2 _ (List.getElem_mem hj')).1]; constructor
  ·intro h; obtain ⟨a, b⟩ := cut44 _ _ _ _ (itoa_no44 _) (itoa_no44 _) (tailKey_form _) (tailKey_form _) h; exact ⟨itoa_inj _ _ a, tailKey_inj _ _ b⟩
  ·intro h
   rw [h.1, h.2])
 refine ⟨D, l, ?_, hl, hD, hf⟩; rw [roundM_eq group ns 0 [] _ (by rw [hT.1]; omega) (fun row hrow q hq => by have := (hT.2 row hrow).2 q hq; omega), hg, hr]
theorem mergeL_some {W n : Nat} {ac : List Bool} {ns : List (List Int)} (hT : TableOK W n ns) : ∀ (f count : Nat) (group : List Int), group.length = n → ClassOK W n ac ns (rd group) → count ≤ n → (∀ k : Nat, k < count → ∃ i, 0 ≤ i ∧ i < (n : Int) ∧ rd group i = (k : Int)) → n + 1 ≤ f + count →
  ∃ g, mergeL ns f count group = some g ∧ g.length = n ∧ ClassEq W n ac ns (rd g) ∧ ∀ i, 0 ≤ i → i < (n : Int) → 0 ≤ rd g i ∧ rd g i < (n : Int) := by
 intro f
 induction f with
 | zero => intro count group _ _ h1 _ h2; omega
 | succ f ih =>
  intro count group hg hC hc hm hf; obtain ⟨D, l, hr, hl, hD, hfin⟩ := roundM_finer hT hg; simp only [mergeL, hr, Option.bind_some]; by_cases e : D.length = count
  ·rw [if_pos e]; subst e; exact ⟨l, rfl, hl, hC.eq hT hfin hm, fun i i0 i1 => by have := hfin.lo i i0 i1; omega⟩
  ·rw [if_neg e]; have := hfin.le hm; exact ih _ _ hl (hC.next hT hfin) hD hfin.met (by omega)
theorem bitL_class {W n : Nat} {ac : List Bool} {ns : List (List Int)} (hn : ac.length = n) : ClassOK W n ac ns (rd (bitL ac)) := by
 have e : ∀ i : Int, rd (bitL ac) i = if rdOf false ac i then 1 else 0 := by
  intro i; unfold rd bitL rdOf; rw [List.getD_eq_getElem?_getD, List.getD_eq_getElem?_getD, List.getElem?_map]
  cases ac[i.toNat]? <;> simp
 refine ⟨fun i j i0 i1 j0 j1 h => ?_, fun i j i0 i1 j0 j1 h => ?_⟩
 ·have := congrFun h []; simp only [lng] at this; rw [e, e, this]
 ·rw [e, e] at h
  revert h
  cases rdOf false ac i <;> cases rdOf false ac j <;> simp
/-- Each class has one of its states. -/
theorem oneL_some {n m : Nat} {gr : List Int} (hgl : gr.length = n) (hgr : ∀ x ∈ gr, 0 ≤ x ∧ x < (m : Int)) : ∀ (l : List Int) (i : Nat) (one : List Int), (∀ j : Nat, j < l.length → l[j]? = gr[i + j]?) → i + l.length = n → one.length = m → (∀ g ∈ l, 0 ≤ g ∧ g < (m : Int)) →
  (∀ j : Nat, j < i → ∀ x, gr[j]? = some x → 0 ≤ rd one x ∧ rd one x < (n : Int) ∧ rd gr (rd one x) = x) →
  ∃ o, oneL l i one = some o ∧ o.length = m ∧ ∀ j : Nat, j < n → ∀ x, gr[j]? = some x → 0 ≤ rd o x ∧ rd o x < (n : Int) ∧ rd gr (rd o x) = x := by
 intro l
 induction l with
 | nil =>
  intro i one h1 h2 h3 h4 h5; simp only [List.length_nil, Nat.add_zero] at h2; subst h2; exact ⟨one, rfl, h3, h5⟩
 | cons g l ih =>
  intro i one h1 h2 h3 h4 h5; have hg := h4 g (by simp); (have hgi : gr[i]? = some g := by simpa using (h1 0 (by simp)).symm); rw [oneL, if_pos ⟨hg.1, by omega⟩]
  have rds : ∀ x, 0 ≤ x → rd (one.set g.toNat (i : Int)) x = if x = g then (i : Int) else rd one x := by
   intro x x0; unfold rd; rw [List.getD_eq_getElem?_getD, List.getD_eq_getElem?_getD, List.getElem?_set]; by_cases e : x = g
   ·subst e; rw [if_pos rfl, if_pos rfl, if_pos (by omega)]; simp
   ·rw [if_neg (by omega), if_neg e]
  refine ih (i + 1) _ (fun j hj => ?_) (by simp only [List.length_cons] at h2; omega) (by simpa using h3) (fun g hg => h4 g (by simp [hg])) ?_
  ·have := h1 (j + 1) (by simp; omega); rw [List.getElem?_cons_succ] at this; rw [this]
   congr 1
   omega
  ·intro j hj x hx; have hx0 : 0 ≤ x := (hgr x (List.mem_of_getElem? hx)).1; rw [rds x hx0]; by_cases e : x = g
   ·rw [if_pos e]; subst e; simp only [List.length_cons] at h2; exact ⟨by omega, by omega, by simp [rd, List.getD_eq_getElem?_getD, hgi]⟩
   ·rw [if_neg e]; refine h5 j ?_ x hx; by_cases e2 : j = i
    ·subst e2; rw [hgi] at hx; exact absurd (Option.some.inj hx).symm e
    ·omega
open Classical in
/-- The tidy table of a language: its states are languages. -/
noncomputable def tidyD (W f : Nat) (L : List Int → Bool) : Option (List Bool × List (List Int)) :=
 growL (fun _ => true) (fun L => some (L [])) (fun L c => some fun w => L (c :: w)) W f [L] [] []
theorem tidyD_same {W f g : Nat} {L : List Int → Bool} {r s : List Bool × List (List Int)} (h : tidyD W f L = some r) (h2 : tidyD W g L = some s) : r = s := by
 classical exact growL_same h h2
theorem rd_of {l : List Int} {i : Nat} {x : Int} (h : l[i]? = some x) : rd l (i : Int) = x := by
 simp [rd, List.getD_eq_getElem?_getD, h]
theorem get_rd {l : List Int} {i : Int} (h0 : 0 ≤ i) (h1 : i < (l.length : Int)) : l[i.toNat]? = some (rd l i) := by
 (have : i.toNat < l.length := by omega); simp [rd, List.getD_eq_getElem?_getD, List.getElem?_eq_getElem this]
theorem merged_law {W n : Nat} {ac : List Bool} {ns : List (List Int)} (hT : TableOK W n ns) (hn : ac.length = n) (h1 : n ≤ 1900000) {start : Int} (s0 : 0 ≤ start) (s1 : start < (n : Int)) {f : Nat} (hf : n + 2 ≤ f) :
  ∃ r, mergedF W f start ac ns = some r ∧ tidyD W f (lng W ac ns start) = some r := by
 obtain ⟨gr, hg, hgl, hE, hb⟩ := mergeL_some (W := W) (ac := ac) hT f 0 (bitL ac) (by simp [bitL, hn]) (bitL_class hn) (by omega) (fun k hk => by omega) (by omega)
 have hgr : ∀ x ∈ gr, 0 ≤ x ∧ x < (n : Int) := by
  intro x hx; obtain ⟨i, hi, he⟩ := List.getElem_of_mem hx; have := hb (i : Int) (by omega) (by omega); rw [rd_of (x := x) (by rw [List.getElem?_eq_getElem hi, he])] at this; exact this
 obtain ⟨o, ho, hol, hoo⟩ := oneL_some (n := n) (m := n) hgl hgr gr 0 (List.replicate n 0) (fun j _ => by rw [Nat.zero_add]) (by omega) (by simp) hgr (fun j hj => by omega)
 have one : ∀ i, 0 ≤ i → i < (n : Int) → 0 ≤ rd o (rd gr i) ∧ rd o (rd gr i) < (n : Int) ∧ rd gr (rd o (rd gr i)) = rd gr i := by
  intro i i0 i1; exact hoo i.toNat (by omega) _ (get_rd i0 (by omega))
 have lone : ∀ i, 0 ≤ i → i < (n : Int) → lng W ac ns (rd o (rd gr i)) = lng W ac ns i := by
  intro i i0 i1; obtain ⟨a, b, c⟩ := one i i0 i1; exact (hE _ _ a b i0 i1).1 c
 have hacc : ∀ i, 0 ≤ i → i < (n : Int) → accM o ac (rd gr i) = some (rdOf false ac i) := by
  intro i i0 i1; obtain ⟨a, b, c⟩ := one i i0 i1; obtain ⟨d, e⟩ := hb i i0 i1; unfold accM; rw [if_pos d, if_pos (by omega), if_pos a, if_pos (by omega)]; have := congrFun (lone i i0 i1) []; simp only [lng] at this; rw [this]
 have hnext : ∀ i c, 0 ≤ i → i < (n : Int) → 0 ≤ c → c < (W : Int) → ∃ j, 0 ≤ j ∧ j < (n : Int) ∧ nextM gr o ns (rd gr i) c = some (rd gr j) ∧ lng W ac ns j = fun w => lng W ac ns i (c :: w) := by
  intro i c i0 i1 c0 c1; obtain ⟨a, b, h⟩ := one i i0 i1; obtain ⟨d, e⟩ := hb i i0 i1; have hs := hT.stpd a b c0 c1; refine ⟨stp ns (rd o (rd gr i)) c, hs.1, hs.2, ?_, ?_⟩
  ·have hrow := hT.row a b; unfold nextM; rw [at1_in d (by omega)]; simp only [Option.bind_some]; rw [show rdOf 0 o (rd gr i) = rd o (rd gr i) from rfl, at1_in a (by rw [hT.1]; exact b)]; simp only [Option.bind_some]; rw [show rdOf [] ns (rd o (rd gr i)) = ns.getD (rd o (rd gr i)).toNat [] from rfl, at1_in c0 (by rw [(hT.2 _ hrow).1]; exact c1)]; simp only [Option.bind_some]; exact at1_in (i := stp ns (rd o (rd gr i)) c) hs.1 (by omega)
  ·funext w
   have := congrFun (lone i i0 i1) (c :: w); rw [← this]; simp [lng, c0, c1]
 have hin : ∀ i, 0 ≤ i → i < (n : Int) → inI64 (rd gr i) = true := by
  intro i i0 i1; obtain ⟨d, e⟩ := hb i i0 i1; simp only [inI64, Bool.and_eq_true, decide_eq_true_eq]; omega
 have total : ∃ r, growL inI64 (accM o ac) (nextM gr o ns) W f [rd gr start] [] [] = some r := by
  refine growL_some (U := gr) (by omega) (fun k c hk c0 c1 => ?_) (fun k hk => ?_) f _ [] [] (by simp) (by intro k hk; simp at hk; subst hk; exact List.mem_of_getElem? (get_rd s0 (by omega))) (by simp) (by simp; omega)
  ·obtain ⟨i, hi, he⟩ := List.getElem_of_mem hk; have ei : rd gr (i : Int) = k := rd_of (by rw [List.getElem?_eq_getElem hi, he]); obtain ⟨j, j0, j1, hj, _⟩ := hnext i c (by omega) (by omega) c0 c1; rw [ei] at hj; exact ⟨_, hj, hin j j0 j1, List.mem_of_getElem? (get_rd j0 (by omega))⟩
  ·obtain ⟨i, hi, he⟩ := List.getElem_of_mem hk; have ei : rd gr (i : Int) = k := rd_of (by rw [List.getElem?_eq_getElem hi, he]); exact ⟨_, by rw [← ei]; exact hacc i (by omega) (by omega)⟩
 obtain ⟨r, hr⟩ := total; refine ⟨r, ?_, ?_⟩
 ·unfold mergedF; rw [hg]; simp only [Option.bind_some]; rw [hgl, ho]; simp only [Option.bind_some]; rw [at1_in s0 (by omega)]; simp only [Option.bind_some]; rw [show rdOf 0 gr start = rd gr start from rfl, if_pos (hin start s0 s1), hr]
 ·classical
  have := growL_map (φ := fun k => lng W ac ns (rd o k)) (S := fun k => ∃ i, 0 ≤ i ∧ i < (n : Int) ∧ rd gr i = k) (K' := List Int → Bool) (good' := fun _ => true) (acc' := fun L => some (L [])) (next' := fun L c => some fun w => L (c :: w)) (W := W)
   (by
    rintro a b ⟨i, i0, i1, rfl⟩ ⟨j, j0, j1, rfl⟩ h; have h' : lng W ac ns (rd o (rd gr i)) = lng W ac ns (rd o (rd gr j)) := h; rw [lone i i0 i1, lone j j0 j1] at h'
    exact (hE i j i0 i1 j0 j1).2 h')
   (by
    rintro k c t ⟨i, i0, i1, rfl⟩ c0 c1 ht; obtain ⟨j, j0, j1, hj, hl⟩ := hnext i c i0 i1 c0 c1; rw [hj] at ht; obtain rfl := Option.some.inj ht; refine ⟨⟨j, j0, j1, rfl⟩, ?_, rfl⟩; show some (fun w => lng W ac ns (rd o (rd gr i)) (c :: w)) = some (lng W ac ns (rd o (rd gr j)))
    rw [lone i i0 i1, lone j j0 j1, hl])
   (by
    rintro k b ⟨i, i0, i1, rfl⟩ hb'; rw [hacc i i0 i1] at hb'; obtain rfl := Option.some.inj hb'; show some (lng W ac ns (rd o (rd gr i)) []) = _; rw [lone i i0 i1]
    rfl)
   f [rd gr start] [] [] r (by intro k hk; simp at hk; subst hk; exact ⟨start, s0, s1, rfl⟩) hr
  have e : ([rd gr start].map fun k => lng W ac ns (rd o k)) = [lng W ac ns start] := by
   simp only [List.map_cons, List.map_nil]; rw [lone start s0 s1]
  rw [e] at this; exact this
section
variable {K : Type} [DecidableEq K] {good : K → Bool} {acc : K → Option Bool} {next : K → Int → Option K} {W : Nat}
theorem growRow_row {nx : Int → Option K} : ∀ (m : Nat) (c : Int) (l : List K) (row : List Int) (l1 : List K) (row1 : List Int), growRow good nx m c l row = some (l1, row1) → l.length ≤ 1900000 →
  ∃ d e, l1 = l ++ d ∧ row1 = row ++ e ∧ e.length = m ∧ l1.length ≤ 1900000 ∧ (∀ k ∈ d, ∃ j : Nat, j < m ∧ nx (c + j) = some k) ∧ ∀ j : Nat, j < m → ∃ (t : K) (i : Nat), nx (c + j) = some t ∧ e[j]? = some (i : Int) ∧ l1[i]? = some t := by
 intro m
 induction m with
 | zero =>
  intro c l row l1 row1 h hl; simp only [growRow, Option.some.injEq, Prod.mk.injEq] at h; obtain ⟨rfl, rfl⟩ := h; exact ⟨[], [], by simp, by simp, rfl, hl, by simp, by simp⟩
 | succ m ih =>
  intro c l row l1 row1 h hl; simp only [growRow] at h; obtain ⟨t, ht, h⟩ := oB h
  split at h
  ·split at h
   ·next e =>
    obtain ⟨d, e1, rfl, rfl, hm, hl1, hd, hj⟩ := ih _ _ _ _ _ h hl; refine ⟨d, (l.idxOf t : Int) :: e1, rfl, by simp, by simp [hm], hl1, ?_, ?_⟩
    ·intro k hk; obtain ⟨j, hj1, hj2⟩ := hd k hk; exact ⟨j + 1, by omega, by rw [← hj2]; congr 1; omega⟩
    ·intro j hjm
     cases j with
     | zero => exact ⟨t, l.idxOf t, by simpa using ht, by simp, by rw [List.getElem?_append_left (List.idxOf_lt_length_iff.2 e), List.getElem?_eq_getElem (List.idxOf_lt_length_iff.2 e), List.getElem_idxOf]⟩
     | succ j =>
      obtain ⟨t', i, h1, h2, h3⟩ := hj j (by omega); exact ⟨t', i, by rw [← h1]; congr 1; omega, by simpa using h2, h3⟩
   ·split at h
    ·next e hlt =>
     obtain ⟨d, e1, rfl, rfl, hm, hl1, hd, hj⟩ := ih _ _ _ _ _ h (by simp; omega); refine ⟨t :: d, (l.length : Int) :: e1, by simp, by simp, by simp [hm], hl1, ?_, ?_⟩
     ·intro k hk
      rcases List.mem_cons.1 hk with rfl | hk
      ·exact ⟨0, by omega, by simpa using ht⟩
      ·obtain ⟨j, hj1, hj2⟩ := hd k hk; exact ⟨j + 1, by omega, by rw [← hj2]; congr 1; omega⟩
     ·intro j hjm
      cases j with
      | zero => exact ⟨t, l.length, by simpa using ht, by simp, by simp⟩
      | succ j =>
       obtain ⟨t', i, h1, h2, h3⟩ := hj j (by omega); exact ⟨t', i, by rw [← h1]; congr 1; omega, by simpa using h2, h3⟩
    ·cases h
  ·cases h
/-- The rows and marks made so far, of the states l. -/
structure GrownOK (acc : K → Option Bool) (next : K → Int → Option K) (W : Nat) (S : K → Prop) (l : List K) (bs : List Bool) (rs : List (List Int)) : Prop where
 len : rs.length = bs.length
 le : bs.length ≤ l.length
 few : l.length ≤ 1900000
 all : ∀ k ∈ l, S k
 acc : ∀ (i : Nat) b, bs[i]? = some b → ∃ k, l[i]? = some k ∧ acc k = some b
 row : ∀ (i : Nat) row, rs[i]? = some row → row.length = W ∧ ∃ k, l[i]? = some k ∧ ∀ j : Nat, j < W → ∃ (t : K) (q : Nat), next k j = some t ∧ row[j]? = some (q : Int) ∧ l[q]? = some t
theorem get_app {α : Type} {l d : List α} {i : Nat} {k : α} (h : l[i]? = some k) : (l ++ d)[i]? = some k := by
 rw [List.getElem?_append_left (List.getElem?_eq_some_iff.1 h).1]; exact h
theorem growL_grown {S : K → Prop} (hS : ∀ k c t, S k → 0 ≤ c → c < (W : Int) → next k c = some t → S t) : ∀ (f : Nat) (l : List K) (bs : List Bool) (rs : List (List Int)) (r : List Bool × List (List Int)), GrownOK acc next W S l bs rs → growL good acc next W f l bs rs = some r →
  ∃ d, GrownOK acc next W S (l ++ d) r.1 r.2 ∧ r.1.length = (l ++ d).length := by
 intro f
 induction f with
 | zero => intro l bs rs r _ h; simp [growL] at h
 | succ f ih =>
  intro l bs rs r hG h; simp only [growL] at h
  cases e : l[bs.length]? with
  | none =>
   rw [e] at h; obtain rfl := Option.some.inj h; refine ⟨[], by simpa using hG, ?_⟩; have := List.getElem?_eq_none_iff.1 e; have := hG.le; simp; omega
  | some k =>
   rw [e] at h; simp only at h; obtain ⟨p, hp, h⟩ := oB h; obtain ⟨b, hb, h⟩ := oB h; obtain ⟨p1, p2⟩ := p; obtain ⟨d, e1, rfl, rfl, hm, hl1, hd, hj⟩ := growRow_row _ _ _ _ _ _ hp hG.few; have hk : S k := hG.all k (List.mem_of_getElem? e); have hlt := (List.getElem?_eq_some_iff.1 e).1
   have hG' : GrownOK acc next W S (l ++ d) (bs ++ [b]) (rs ++ [p2]) := by
    refine ⟨by simp [hG.len], by simp; omega, hl1, ?_, ?_, ?_⟩
    ·intro x hx
     rcases List.mem_append.1 hx with hx | hx
     ·exact hG.all x hx
     ·obtain ⟨j, hj1, hj2⟩ := hd x hx; exact hS k _ x hk (by omega) (by omega) hj2
    ·intro i b' hb'; by_cases ei : i < bs.length
     ·rw [List.getElem?_append_left ei] at hb'; obtain ⟨k', h1, h2⟩ := hG.acc i b' hb'; exact ⟨k', get_app h1, h2⟩
     ·have hi : i = bs.length := by
       have := (List.getElem?_eq_some_iff.1 hb').1; simp at this; omega
      subst hi; rw [List.getElem?_append_right (Nat.le_refl _)] at hb'; simp at hb'; subst hb'; exact ⟨k, get_app e, hb⟩
    ·intro i row hr; by_cases ei : i < rs.length
     ·rw [List.getElem?_append_left ei] at hr; obtain ⟨h0, k', h1, h2⟩ := hG.row i row hr; refine ⟨h0, k', get_app h1, fun j hjW => ?_⟩; obtain ⟨t, q, a, b', c⟩ := h2 j hjW; exact ⟨t, q, a, b', get_app c⟩
     ·have hi : i = rs.length := by
       have := (List.getElem?_eq_some_iff.1 hr).1; simp at this; omega
      subst hi; rw [List.getElem?_append_right (Nat.le_refl _)] at hr; simp at hr; subst hr; refine ⟨by simpa using hm, k, get_app (by rw [hG.len]; exact e), fun j hjW => ?_⟩; obtain ⟨t, q, a, b', c⟩ := hj j hjW; exact ⟨t, q, by rw [← a]; congr 1; omega, by simpa using b', c⟩
   obtain ⟨d', h1, h2⟩ := ih _ _ _ _ hG' h; exact ⟨d ++ d', by simpa using h1, by simpa using h2⟩
theorem growL_table {S : K → Prop} {Λ : K → List Int → Bool} (hS : ∀ k c t, S k → 0 ≤ c → c < (W : Int) → next k c = some t → S t ∧ ∀ w, Λ k (c :: w) = Λ t w) (ha : ∀ k b, S k → acc k = some b → Λ k [] = b) (ho : ∀ k c w, ¬ (0 ≤ c ∧ c < (W : Int)) → Λ k (c :: w) = false)
  {start : K} (h0 : S start) {f : Nat} {r : List Bool × List (List Int)} (h : growL good acc next W f [start] [] [] = some r) :
  TableOK W r.1.length r.2 ∧ 0 < r.1.length ∧ r.1.length ≤ 1900000 ∧ lng W r.1 r.2 0 = Λ start := by
 obtain ⟨d, hG, hlen⟩ := growL_grown (fun k c t a b c' e => (hS k c t a b c' e).1) f [start] [] [] r ⟨rfl, by simp, by simp, by intro k hk; simp at hk; exact hk ▸ h0, by simp, by simp⟩ h; (have hpos : 0 < r.1.length := by rw [hlen]; simp)
 have hT : TableOK W r.1.length r.2 := by
  refine ⟨hG.len, fun row hrow => ?_⟩; obtain ⟨i, hi, he⟩ := List.getElem_of_mem hrow; obtain ⟨hW, k, _, hj⟩ := hG.row i row (by rw [List.getElem?_eq_getElem hi, he]); refine ⟨hW, fun x hx => ?_⟩; obtain ⟨j, hj1, hj2⟩ := List.getElem_of_mem hx; obtain ⟨t, q, _, h2, h3⟩ := hj j (by omega); rw [List.getElem?_eq_getElem hj1, hj2] at h2; obtain rfl := Option.some.inj h2; have := (List.getElem?_eq_some_iff.1 h3).1; omega
 refine ⟨hT, hpos, by rw [hlen]; exact hG.few, ?_⟩
 have key : ∀ (w : List Int) (i : Nat) (k : K), ([start] ++ d)[i]? = some k → lng W r.1 r.2 (i : Int) w = Λ k w := by
  intro w
  induction w with
  | nil =>
   intro i k hk; have hi := (List.getElem?_eq_some_iff.1 hk).1; obtain ⟨k', h1, h2⟩ := hG.acc i r.1[i] (List.getElem?_eq_getElem (by omega)); rw [hk] at h1; obtain rfl := Option.some.inj h1; rw [ha k _ (hG.all k (List.mem_of_getElem? hk)) h2]; simp [lng, rdOf, List.getD_eq_getElem?_getD, List.getElem?_eq_getElem (show i < r.1.length by omega)]
  | cons c w ih =>
   intro i k hk; have hi := (List.getElem?_eq_some_iff.1 hk).1; by_cases hc : 0 ≤ c ∧ c < (W : Int)
   ·obtain ⟨hW, k', h1, h2⟩ := hG.row i (r.2[i]'(by rw [hG.len]; omega)) (List.getElem?_eq_getElem _); rw [hk] at h1; obtain rfl := Option.some.inj h1; obtain ⟨t, q, a, b, c'⟩ := h2 c.toNat (by omega); rw [show ((c.toNat : Nat) : Int) = c by omega] at a
    have hs : stp r.2 (i : Int) c = (q : Int) := by
     simp only [stp, rd, Int.toNat_natCast]; rw [List.getD_eq_getElem?_getD, List.getD_eq_getElem?_getD, List.getElem?_eq_getElem (show i < r.2.length by rw [hG.len]; omega)]; simp only [Option.getD_some]; rw [b]; rfl
    obtain ⟨_, hΛ⟩ := hS k c t (hG.all k (List.mem_of_getElem? hk)) hc.1 hc.2 a; simp only [lng, hc, decide_true, Bool.true_and]; rw [hs, ih q t c', hΛ]
   ·rw [ho k c w hc]; simp only [lng]; by_cases c0 : 0 ≤ c
    ·simp [show ¬ c < (W : Int) from fun h => hc ⟨c0, h⟩]
    ·simp [c0]
 funext w
 exact key w 0 start (by simp)
end
def lngR (W : Nat) (pads : List Int) (ac : List Bool) (ns : List (List Int)) : Int × Int → List Int → Bool
 | x, [] => decide (0 ≤ x.2) && rdOf false ac x.1
 | x, c :: w => decide (0 ≤ c) && (decide (c < (W : Int)) && (decide (0 ≤ x.2) && (decide (bits .andNot .i64 x.2 (rd pads c) = 0) && lngR W pads ac ns (stp ns x.1 c, rd pads c) w)))
theorem lngR_dead (W : Nat) (pads : List Int) (ac : List Bool) (ns : List (List Int)) (q : Int) (w : List Int) : lngR W pads ac ns (q, -1) w = false := by
 cases w <;> simp [lngR]
theorem rd_range {l : List Int} {p : Int → Prop} (h : ∀ x ∈ l, p x) {i : Int} (h0 : 0 ≤ i) (h1 : i < (l.length : Int)) : p (rd l i) := by
 (have : i.toNat < l.length := by omega); unfold rd; rw [List.getD_eq_getElem?_getD, List.getElem?_eq_getElem this]; exact h _ (List.getElem_mem this)
theorem places_law {W n : Nat} {pads : List Int} {ac : List Bool} {ns : List (List Int)} (hT : TableOK W n ns) (hn : ac.length = n) (hp : pads.length = W) (hp8 : ∀ x ∈ pads, 0 ≤ x ∧ x < 8) (hn2 : n ≤ 100000) {start : Int} (s0 : 0 ≤ start) (s1 : start < (n : Int)) {f : Nat} (hf : 1900002 ≤ f) :
  ∃ r, growL good2 (accT ac) (nextT pads ns) W f [(start, 0)] [] [] = some r ∧ TableOK W r.1.length r.2 ∧ 0 < r.1.length ∧ r.1.length ≤ 1900000 ∧ lng W r.1 r.2 0 = lngR W pads ac ns (start, 0) := by
 have hS : ∀ k c, (k = ((0 : Int), (-1 : Int)) ∨ (0 ≤ k.1 ∧ k.1 < (n : Int) ∧ 0 ≤ k.2 ∧ k.2 < 8)) → 0 ≤ c → c < (W : Int) → ∃ t, nextT pads ns k c = some t ∧ (t = ((0 : Int), (-1 : Int)) ∨ (0 ≤ t.1 ∧ t.1 < (n : Int) ∧ 0 ≤ t.2 ∧ t.2 < 8)) ∧ ∀ w, lngR W pads ac ns k (c :: w) = lngR W pads ac ns t w := by
  intro k c hk c0 c1
  rcases hk with rfl | ⟨k0, k1, k2, k3⟩
  ·exact ⟨(0, -1), by unfold nextT; rw [if_pos (by show (-1 : Int) < 0; omega)], .inl rfl, fun w => by rw [lngR_dead, lngR_dead]⟩
  ·have hpc := rd_range hp8 c0 (by omega); unfold nextT; rw [if_neg (by omega), at1_in c0 (by omega)]; simp only [Option.bind_some]; rw [show rdOf 0 pads c = rd pads c from rfl]; by_cases hb : bits .andNot .i64 k.2 (rd pads c) = 0
   ·rw [if_pos hb]; have hst := hT.stpd k0 k1 c0 c1; have hrow := hT.row k0 k1; rw [at1_in k0 (by rw [hT.1]; exact k1)]; simp only [Option.bind_some]; rw [show rdOf [] ns k.1 = ns.getD k.1.toNat [] from rfl, at1_in c0 (by rw [(hT.2 _ hrow).1]; exact c1)]; simp only [Option.bind_some]; refine ⟨_, rfl, .inr ⟨hst.1, hst.2, hpc.1, hpc.2⟩, fun w => ?_⟩; simp only [lngR, c0, c1, k2, hb, decide_true, Bool.true_and]; rfl
   ·rw [if_neg hb]; refine ⟨_, rfl, .inl rfl, fun w => ?_⟩; rw [lngR_dead]; simp [lngR, hb]
 have hA : ∀ k : Int × Int, (k = ((0 : Int), (-1 : Int)) ∨ (0 ≤ k.1 ∧ k.1 < (n : Int) ∧ 0 ≤ k.2 ∧ k.2 < 8)) → ∃ b, accT ac k = some b ∧ lngR W pads ac ns k [] = b := by
  intro k hk
  rcases hk with rfl | ⟨k0, k1, k2, k3⟩
  ·exact ⟨false, by unfold accT; rw [if_neg (by show ¬ (0 : Int) ≤ -1; omega)], lngR_dead _ _ _ _ _ _⟩
  ·exact ⟨rdOf false ac k.1, by unfold accT; rw [if_pos k2, at1_in k0 (by omega)], by simp [lngR, k2]⟩
 let U : List (Int × Int) := ((0 : Int), (-1 : Int)) :: (List.range n).flatMap fun (a : Nat) => (List.range 8).map fun (b : Nat) => ((a : Int), (b : Int))
 have hUl : U.length = n * 8 + 1 := by
  simp only [U, List.length_cons, List.length_flatMap, List.length_map, List.length_range, List.map_const', List.sum_replicate_nat]
 have hU : ∀ k : Int × Int, k ∈ U ↔ (k = ((0 : Int), (-1 : Int)) ∨ (0 ≤ k.1 ∧ k.1 < (n : Int) ∧ 0 ≤ k.2 ∧ k.2 < 8)) := by
  intro k; simp only [U, List.mem_cons, List.mem_flatMap, List.mem_range, List.mem_map]; constructor
  ·rintro (h | ⟨a, ha, b, hb, rfl⟩)
   ·exact .inl h
   ·exact .inr ⟨by simp, by simp; omega, by simp, by simp; omega⟩
  ·rintro (h | ⟨h0, h1, h2, h3⟩)
   ·exact .inl h
   ·exact .inr ⟨k.1.toNat, by omega, k.2.toNat, by omega, Prod.ext (by simp; omega) (by simp; omega)⟩
 have hst : (start, (0 : Int)) ∈ U := (hU _).2 (.inr ⟨s0, s1, by simp, by simp⟩)
 have total : ∃ r, growL good2 (accT ac) (nextT pads ns) W f [(start, 0)] [] [] = some r := by
  refine growL_some (U := U) (by rw [hUl]; omega) (fun k c hk c0 c1 => ?_) (fun k hk => ?_) f _ [] [] (by simp) (by intro k hk; simp at hk; subst hk; exact hst) (by simp) (by rw [hUl]; simp; omega)
  ·obtain ⟨t, ht, hSt, _⟩ := hS k c ((hU k).1 hk) c0 c1; refine ⟨t, ht, ?_, (hU t).2 hSt⟩
   rcases hSt with rfl | ⟨t0, t1, t2, t3⟩
   ·decide
   ·simp only [good2, inI64, Bool.and_eq_true, decide_eq_true_eq]; omega
  ·obtain ⟨b, hb, _⟩ := hA k ((hU k).1 hk); exact ⟨b, hb⟩
 obtain ⟨r, hr⟩ := total
 have ht := growL_table (S := fun k => k = ((0 : Int), (-1 : Int)) ∨ (0 ≤ k.1 ∧ k.1 < (n : Int) ∧ 0 ≤ k.2 ∧ k.2 < 8)) (Λ := lngR W pads ac ns)
  (fun k c t hk c0 c1 ht => by obtain ⟨t', ht', h1, h2⟩ := hS k c hk c0 c1; rw [ht] at ht'; obtain rfl := Option.some.inj ht'; exact ⟨h1, h2⟩)
  (fun k b hk hb => by obtain ⟨b', hb', h⟩ := hA k hk; rw [hb] at hb'; obtain rfl := Option.some.inj hb'; exact h)
  (fun k c w hc => by
   simp only [lngR]; by_cases c0 : 0 ≤ c
   ·simp [show ¬ c < (W : Int) from fun h => hc ⟨c0, h⟩]
   ·simp [c0])
  (.inr ⟨s0, s1, by simp, by simp⟩) hr
 exact ⟨r, hr, ht⟩
/-- 'tidy' makes the tidy table of the right language. -/
theorem tidy_law {W n : Nat} {pads : List Int} {ac : List Bool} {ns : List (List Int)} (hT : TableOK W n ns) (hn : ac.length = n) (hp : pads.length = W) (hp8 : ∀ x ∈ pads, 0 ≤ x ∧ x < 8) (hn2 : n ≤ 100000) (hW : W ≤ 1000) {start : Int} (s0 : 0 ≤ start) (s1 : start < (n : Int)) {f : Nat} (hf : 1900002 ≤ f) :
  ∃ p r, growL good2 (accT ac) (nextT pads ns) W f [(start, 0)] [] [] = some p ∧ (p.1.length ≤ 1900000 ∧ p.2.length = p.1.length ∧ ∀ row ∈ p.2, row.length ≤ 1000) ∧ mergedF W f 0 p.1 p.2 = some r ∧ tidyD W f (lngR W pads ac ns (start, 0)) = some r := by
 obtain ⟨p, hp1, hT2, hpos, hle, hl⟩ := places_law hT hn hp hp8 hn2 s0 s1 hf; obtain ⟨r, hr, hd⟩ := merged_law hT2 rfl hle (start := 0) (by omega) (by omega) (f := f) (by omega); exact ⟨p, r, hp1, ⟨hle, hT2.1, fun row hrow => by rw [(hT2.2 row hrow).1]; exact hW⟩, hr, by rw [← hl]; exact hd⟩
section
variable {W n m : Nat} {ac : List Bool} {ns : List (List Int)} {cl : List Int}
/-- The numbers of the classes that were met. -/
structure NuOK (n m : Nat) (cl : List Int) (nu l : List Int) : Prop where
 len : nu.length = m
 rng : ∀ s ∈ l, 0 ≤ s ∧ s < (n : Int)
 nod : (l.map (rd cl)).Nodup
 num : ∀ v : Int, 0 ≤ v → v < (m : Int) → (rd nu v < 0 ∧ ∀ s ∈ l, rd cl s ≠ v) ∨ ∃ (i : Nat) (s : Int), rd nu v = (i : Int) ∧ l[i]? = some s ∧ rd cl s = v
theorem rd_set_other {l : List Int} {i j x : Int} (h0 : 0 ≤ i) (h1 : 0 ≤ j) (h : i ≠ j) : rd (l.set i.toNat x) j = rd l j := by
 unfold rd; rw [List.getD_eq_getElem?_getD, List.getD_eq_getElem?_getD, List.getElem?_set, if_neg (by omega)]
theorem NuOK.push {nu l : List Int} (h : NuOK n m cl nu l) {t : Int} (t0 : 0 ≤ t) (t1 : t < (n : Int)) (c0 : 0 ≤ rd cl t) (c1 : rd cl t < (m : Int)) (hx : rd nu (rd cl t) < 0) : NuOK n m cl (nu.set (rd cl t).toNat (l.length : Int)) (l ++ [t]) := by
 have hnew : ∀ s ∈ l, rd cl s ≠ rd cl t := by
  rcases h.num _ c0 c1 with ⟨_, h2⟩ | ⟨i, s, h2, _⟩
  ·exact h2
  ·omega
 refine ⟨by simp [h.len], ?_, ?_, ?_⟩
 ·intro s hs
  rcases List.mem_append.1 hs with hs | hs
  ·exact h.rng s hs
  ·simp at hs; subst hs; exact ⟨t0, t1⟩
 ·rw [List.map_append]; refine List.nodup_append.2 ⟨h.nod, by simp, fun a ha b hb => ?_⟩; simp at hb; subst hb; obtain ⟨s, hs, rfl⟩ := List.mem_map.1 ha; exact hnew s hs
 ·intro v v0 v1; by_cases e : rd cl t = v
  ·subst e; right; exact ⟨l.length, t, rd_set_same c0 (by rw [h.len]; exact c1), by simp, rfl⟩
  ·rw [rd_set_other c0 v0 e]
   rcases h.num v v0 v1 with ⟨h2, h3⟩ | ⟨i, s, h2, h3, h4⟩
   ·left; refine ⟨h2, fun s hs => ?_⟩
    rcases List.mem_append.1 hs with hs | hs
    ·exact h3 s hs
    ·simp at hs; subst hs; exact e
   ·right; exact ⟨i, s, h2, getE_app h3, h4⟩
open Classical in
theorem trow_grow (hE : ClassEq W n ac ns (rd cl)) (hcl : cl.length = n) (hcm : ∀ i, 0 ≤ i → i < (n : Int) → 0 ≤ rd cl i ∧ rd cl i < (m : Int)) {nx : Int → Option (List Int → Bool)} :
  ∀ (ts : List Int) (c : Int) (nu l row : List Int) (L1 : List (List Int → Bool)) (row1 : List Int), (∀ t ∈ ts, 0 ≤ t ∧ t < (n : Int)) → (∀ j : Nat, ∀ t, ts[j]? = some t → nx (c + j) = some (lng W ac ns t)) → NuOK n m cl nu l →
   growRow (fun _ => true) nx ts.length c (l.map (lng W ac ns)) row = some (L1, row1) → ∃ nu1 l1, trowF cl ts nu l row = some (nu1, l1, row1) ∧ L1 = l1.map (lng W ac ns) ∧ NuOK n m cl nu1 l1 := by
 intro ts
 induction ts with
 | nil =>
  intro c nu l row L1 row1 _ _ hN h; simp only [List.length_nil, growRow, Option.some.injEq, Prod.mk.injEq] at h; obtain ⟨rfl, rfl⟩ := h; exact ⟨nu, l, rfl, rfl, hN⟩
 | cons t ts ih =>
  intro c nu l row L1 row1 ht hnx hN h; obtain ⟨t0, t1⟩ := ht t (by simp); obtain ⟨c0, c1⟩ := hcm t t0 t1; have hn0 := hnx 0 t (by simp); rw [show c + ((0 : Nat) : Int) = c by omega] at hn0; simp only [List.length_cons, growRow, hn0, Option.bind_some, if_true] at h
  have hnx' : ∀ j : Nat, ∀ t', ts[j]? = some t' → nx (c + 1 + j) = some (lng W ac ns t') := by
   intro j t' hj; have := hnx (j + 1) t' (by simpa using hj); rw [show c + 1 + (j : Int) = c + ((j + 1 : Nat) : Int) by omega]; exact this
  rw [trowF, at1_in t0 (by omega)]; simp only [Option.bind_some]; rw [show rdOf 0 cl t = rd cl t from rfl, at1_in c0 (by rw [hN.len]; exact c1)]; simp only [Option.bind_some]; rw [show rdOf 0 nu (rd cl t) = rd nu (rd cl t) from rfl]
  rcases hN.num _ c0 c1 with ⟨h2, h3⟩ | ⟨i, s, h2, h3, h4⟩
  ·rw [if_pos h2]
   have hmem : lng W ac ns t ∉ l.map (lng W ac ns) := by
    intro hm; obtain ⟨s, hs, he⟩ := List.mem_map.1 hm; obtain ⟨s0, s1⟩ := hN.rng s hs; exact h3 s hs ((hE s t s0 s1 t0 t1).2 he)
   rw [if_neg hmem, List.length_map] at h
   split at h
   ·next hlt =>
    rw [if_pos hlt]; have hN2 := NuOK.push hN t0 t1 c0 c1 h2; exact ih (c + 1) _ (l ++ [t]) _ L1 row1 (fun t' ht' => ht t' (by simp [ht'])) hnx' hN2 (by rw [List.map_append]; exact h)
   ·cases h
  ·rw [if_neg (by omega)]; obtain ⟨s0, s1⟩ := hN.rng s (List.mem_of_getElem? h3); have hls : lng W ac ns s = lng W ac ns t := (hE s t s0 s1 t0 t1).1 h4; have hi := (List.getElem?_eq_some_iff.1 h3).1; (have hmem : lng W ac ns t ∈ l.map (lng W ac ns) := by rw [← hls]; exact List.mem_map_of_mem (List.mem_of_getElem? h3)); rw [if_pos hmem] at h
   have hnodL : (l.map (lng W ac ns)).Nodup := by
    have := hN.nod
    rw [List.Nodup, List.pairwise_map] at this ⊢
    refine List.Pairwise.imp_of_mem ?_ this; intro a b ha hb hab e; obtain ⟨a0, a1⟩ := hN.rng a ha; obtain ⟨b0, b1⟩ := hN.rng b hb; exact hab ((hE a b a0 a1 b0 b1).2 e)
   have hix : (l.map (lng W ac ns)).idxOf (lng W ac ns t) = i := by
    have hi2 : i < (l.map (lng W ac ns)).length := by simpa using hi
    have hget : (l.map (lng W ac ns))[i] = lng W ac ns t := by
     rw [List.getElem_map, ← hls]
     congr 1
     exact (List.getElem?_eq_some_iff.1 h3).2
    rw [← hget, hnodL.idxOf_getElem]
   rw [hix] at h; rw [h2]; exact ih (c + 1) nu l _ L1 row1 (fun t' ht' => ht t' (by simp [ht'])) hnx' hN h
open Classical in
theorem tmain_grow (hT : TableOK W n ns) (hn : ac.length = n) (hE : ClassEq W n ac ns (rd cl)) (hcl : cl.length = n) (hcm : ∀ i, 0 ≤ i → i < (n : Int) → 0 ≤ rd cl i ∧ rd cl i < (m : Int)) :
  ∀ (f : Nat) (nu l : List Int) (bs : List Bool) (rs : List (List Int)) (r : List Bool × List (List Int)), NuOK n m cl nu l → growL (fun _ => true) (fun L => some (L [])) (fun L c => some fun w => L (c :: w)) W f (l.map (lng W ac ns)) bs rs = some r → tmainF cl ac ns f nu l bs rs = some r := by
 intro f
 induction f with
 | zero => intro nu l bs rs r _ h; simp [growL] at h
 | succ f ih =>
  intro nu l bs rs r hN h; simp only [growL] at h; rw [List.getElem?_map] at h; rw [tmainF]
  cases e : l[bs.length]? with
  | none => rw [e] at h; simpa using h
  | some s =>
   rw [e] at h
   simp only [Option.map_some, Option.bind_some] at h ⊢
   obtain ⟨s0, s1⟩ := hN.rng s (List.mem_of_getElem? e); rw [at1_in s0 (by rw [hT.1]; exact s1)]; simp only [Option.bind_some]; rw [at1_in s0 (by omega)]; simp only [Option.bind_some]; obtain ⟨⟨L1, row1⟩, hp, h⟩ := oB h; have hrow := hT.row s0 s1; obtain ⟨hrl, hrr⟩ := hT.2 _ hrow
   obtain ⟨nu1, l1, h1, rfl, hN1⟩ := trow_grow (m := m) (nx := fun c => some fun w => lng W ac ns s (c :: w)) hE hcl hcm (rdOf [] ns s) 0 nu l [] L1 row1 (fun t ht => hrr t ht) (fun j t hj => by
    have hjl := (List.getElem?_eq_some_iff.1 hj).1
    have e2 : stp ns s (j : Int) = t := by
     have : (ns.getD s.toNat [])[j]? = some t := hj; simp only [stp, rd, Int.toNat_natCast]; rw [List.getD_eq_getElem?_getD (l := ns.getD s.toNat []), this]; rfl
    rw [show (0 : Int) + (j : Int) = (j : Int) by omega]; rw [← e2]
    have hjW : (j : Int) < (W : Int) := by
     have : (rdOf [] ns s).length = W := hrl; omega
    show some (fun w => lng W ac ns s ((j : Int) :: w)) = some (lng W ac ns (stp ns s (j : Int)))
    congr 1
    funext w
    simp [lng, hjW]) hN (by rw [show (rdOf [] ns s).length = W from hrl]; exact hp)
   rw [h1]; simp only [Option.bind_some]; exact ih nu1 l1 _ _ r hN1 h
/-- .. as the tidy table of the first state's language. -/
theorem tmain_law (hT : TableOK W n ns) (hn : ac.length = n) (h1 : n ≤ 1900000) (h0 : 0 < n) (hE : ClassEq W n ac ns (rd cl)) (hcl : cl.length = n) (hcm : ∀ i, 0 ≤ i → i < (n : Int) → 0 ≤ rd cl i ∧ rd cl i < (m : Int)) {f : Nat} (hf : n + 2 ≤ f) :
  ∃ r, tmainF cl ac ns f ((List.replicate m (-1)).set (rd cl 0).toNat 0) [0] [] [] = some r ∧ tidyD W f (lng W ac ns 0) = some r := by
 classical
 have total : ∃ r, growL (fun _ => true) (fun L => some (L [])) (fun (L : List Int → Bool) c => some fun w => L (c :: w)) W f [lng W ac ns 0] [] [] = some r := by
  have hUm : ∀ q, 0 ≤ q → q < (n : Int) → lng W ac ns q ∈ (List.range n).map (fun q : Nat => lng W ac ns (q : Int)) := fun q q0 q1 => List.mem_map.2 ⟨q.toNat, List.mem_range.2 (by omega), by rw [show ((q.toNat : Nat) : Int) = q by omega]⟩; refine growL_some (U := (List.range n).map (fun q : Nat => lng W ac ns (q : Int))) (by simpa using h1) (fun k c hk c0 c1 => ?_) (fun k hk => ⟨_, rfl⟩) f _ [] [] (by simp) (by intro k hk; simp at hk; subst hk; exact hUm 0 (by omega) (by omega)) (by simp) (by simp; omega); obtain ⟨q, hq, rfl⟩ := List.mem_map.1 hk; have hq' := List.mem_range.1 hq; have hs := hT.stpd (q := (q : Int)) (by omega) (by omega) c0 c1; refine ⟨_, rfl, rfl, ?_⟩
  have e : (fun w => lng W ac ns (q : Int) (c :: w)) = lng W ac ns (stp ns (q : Int) c) := by
   funext w
   simp [lng, c0, c1]
  rw [e]; exact hUm _ hs.1 hs.2
 obtain ⟨r, hr⟩ := total; have hc0 := hcm 0 (by omega) (by omega); refine ⟨r, tmain_grow hT hn hE hcl hcm f _ [0] [] [] r ?_ (by simpa using hr), hr⟩; refine ⟨by simp, by simp; omega, by simp, fun v v0 v1 => ?_⟩; by_cases e : rd cl 0 = v
 ·right; exact ⟨0, 0, by rw [← e]; exact rd_set_same hc0.1 (by simp; omega), by simp, e⟩
 ·left; rw [rd_set_other hc0.1 v0 e]; refine ⟨?_, by simpa using e⟩
  have : rd (List.replicate m (-1)) v = -1 := by
   (have hv : v.toNat < m := by omega); simp [rd, List.getD_eq_getElem?_getD, hv]
  omega
end
section
variable {W n : Nat} {ac : List Bool} {ns : List (List Int)} {cl : List Int} {t s0 : Int}
def SameC (W : Nat) (ns : List (List Int)) (g : Int → Int) (a b : Int) : Prop := g a = g b ∧ ∀ c, 0 ≤ c → c < (W : Int) → g (stp ns a c) = g (stp ns b c)
theorem SameC.symm {g : Int → Int} {a b : Int} (h : SameC W ns g a b) : SameC W ns g b a := ⟨h.1.symm, fun c c0 c1 => (h.2 c c0 c1).symm⟩
theorem SameC.trans {g : Int → Int} {a b c : Int} (h : SameC W ns g a b) (h2 : SameC W ns g b c) : SameC W ns g a c := ⟨h.1.trans h2.1, fun d c0 c1 => (h.2 d c0 c1).trans (h2.2 d c0 c1)⟩
theorem wrap_small {x : Int} (h0 : 0 ≤ x) (h1 : x ≤ 1000000000) : wrap64 (x + 1) = x + 1 := by unfold wrap64; omega
theorem alike_law (hT : TableOK W n ns) (hcl : cl.length = n) (hW : W ≤ 1000) {a b : Int} (a0 : 0 ≤ a) (a1 : a < (n : Int)) (b0 : 0 ≤ b) (b1 : b < (n : Int)) :
  ∀ (d k : Nat) (c : Int), 0 ≤ c → c + d = (W : Int) → d < k → ∃ B, spec_l01Alike.l0 k cl a b c t s0 ac ns = some (B, t, s0) ∧ (B = true ↔ ∀ c', c ≤ c' → c' < (W : Int) → rd cl (stp ns a c') = rd cl (stp ns b c')) := by
 have hra := hT.2 _ (hT.row a0 a1); have hrb := hT.2 _ (hT.row b0 b1); (have la : ((rd_L2 ns a).length : Int) = (W : Int) := by rw [show rd_L2 ns a = ns.getD a.toNat [] from rfl, hra.1]); (have lb : ((rd_L2 ns b).length : Int) = (W : Int) := by rw [show rd_L2 ns b = ns.getD b.toNat [] from rfl, hrb.1]); intro d
 induction d with
 | zero =>
  intro k c c0 hc hk; obtain ⟨k, rfl⟩ : ∃ m, k = m + 1 := ⟨k - 1, by omega⟩; refine ⟨true, ?_, by simp; intro c' h1 h2; omega⟩; simp only [spec_l01Alike.l0]; rw [if_pos a0, if_pos (by rw [hT.1]; exact a1), if_neg (by rw [la]; omega)]
 | succ d ih =>
  intro k c c0 hc hk; obtain ⟨k, rfl⟩ : ∃ m, k = m + 1 := ⟨k - 1, by omega⟩; have sa := hT.stpd a0 a1 c0 (by omega); have sb := hT.stpd b0 b1 c0 (by omega); simp only [spec_l01Alike.l0]; rw [show rd (rd_L2 ns a) c = stp ns a c from rfl, show rd (rd_L2 ns b) c = stp ns b c from rfl, if_pos a0, if_pos (by rw [hT.1]; exact a1), if_pos (by rw [la]; omega), if_pos c0, if_pos sa.1, if_pos (by rw [hcl]; exact sa.2), if_pos b0, if_pos (by rw [hT.1]; exact b1), if_pos (by rw [lb]; omega), if_pos sb.1, if_pos (by rw [hcl]; exact sb.2)]; by_cases e : rd cl (stp ns a c) = rd cl (stp ns b c)
  ·rw [if_pos e, wrap_small c0 (by omega)]; obtain ⟨B, h, hB⟩ := ih k (c + 1) (by omega) (by omega) (by omega); refine ⟨B, h, hB.trans ⟨fun h c' h1 h2 => ?_, fun h c' h1 h2 => h c' (by omega) h2⟩⟩; by_cases e2 : c' = c
   ·rw [e2]; exact e
   ·exact h c' (by omega) h2
  ·rw [if_neg e]; exact ⟨false, rfl, by simp; exact ⟨c, by omega, by omega, e⟩⟩
/-- The search among the first ones. -/
theorem search_law (hT : TableOK W n ns) (hcl : cl.length = n) (hW : W ≤ 1000) (hn : n ≤ 1000000) {s : Int} (q0 : 0 ≤ s) (q1 : s < (n : Int)) {x7 x8 : List Int} (h7 : x7.length = n) (hneg : rd x7 s < 0) (h8 : ∀ f ∈ x8, 0 ≤ f ∧ f < (n : Int)) (h8l : x8.length ≤ n) {r : List Int × Int × Int × Int} {K : Nat}
  (hnone : (∀ f ∈ x8, ¬ SameC W ns (rd cl) f s) → ∀ k, K ≤ k → spec_l01Finer.l0 k cl (n : Int) (x7.set s.toNat (x8.length : Int)) (x8 ++ [s]) (s + 1) t s0 ac ns = some r)
  (hsome : ∀ (i : Nat) (f : Int), x8[i]? = some f → SameC W ns (rd cl) f s → ∀ k, K ≤ k → spec_l01Finer.l0 k cl (n : Int) (x7.set s.toNat (i : Int)) x8 (s + 1) t s0 ac ns = some r) :
  ∀ (d k j : Nat), j + d = x8.length → (∀ (i : Nat) f, i < j → x8[i]? = some f → ¬ SameC W ns (rd cl) f s) → K + 2 * d + W + 10 ≤ k → spec_l01Finer.l1 k cl (n : Int) x7 x8 s (j : Int) t s0 ac ns = some r := by
 intro d
 induction d with
 | zero =>
  intro k j hj hno hk; obtain ⟨k, rfl⟩ : ∃ m, k = m + 2 := ⟨k - 2, by omega⟩; rw [spec_l01Finer.l1, if_neg (by omega), spec_l01Finer.j2, if_neg (by simp), if_pos q0, if_pos (by rw [h7]; exact q1), if_pos hneg, if_pos (by omega), wrap_small q0 (by omega)]; refine hnone (fun f hf => ?_) k (by omega); obtain ⟨i, hi, he⟩ := List.getElem_of_mem hf; exact hno i f (by omega) (by rw [List.getElem?_eq_getElem hi, he])
 | succ d ih =>
  intro k j hj hno hk; obtain ⟨k, rfl⟩ : ∃ m, k = m + 2 := ⟨k - 2, by omega⟩; (have hj2 : j < x8.length := by omega); have hget : x8[j]? = some (rd x8 (j : Int)) := get_rd (i := (j : Int)) (by omega) (by omega); have hf := h8 _ (List.mem_of_getElem? hget); rw [spec_l01Finer.l1, if_pos (by omega), if_pos q0, if_pos (by rw [h7]; exact q1), spec_l01Finer.j2, if_pos (by simpa using hneg), if_pos (by omega), if_pos (by omega), if_pos hf.1, if_pos (by rw [hcl]; exact hf.2), if_pos q0, if_pos (by rw [hcl]; exact q1)]
  have next : ¬ SameC W ns (rd cl) (rd x8 (j : Int)) s → spec_l01Finer.l1 k cl (n : Int) x7 x8 s (wrap64 ((j : Int) + 1)) t s0 ac ns = some r := by
   intro hns; rw [wrap_small (by omega) (by omega)]
   exact ih k (j + 1) (by omega) (fun i f hi hif => by
    by_cases e : i = j
    ·subst e; rw [hget] at hif; obtain rfl := Option.some.inj hif; exact hns
    ·exact hno i f (by omega) hif) (by omega)
  by_cases e : rd cl (rd x8 (j : Int)) = rd cl s
  ·rw [if_pos e]; obtain ⟨B, hB, hBi⟩ := alike_law (t := t) (s0 := s0) (ac := ac) hT hcl hW hf.1 hf.2 q0 q1 W k 0 (by omega) (by omega) (by omega); rw [spec_l01Alike.f, hB]; simp only [Option.bind_some]; by_cases hBt : B = true
   ·have hs : SameC W ns (rd cl) (rd x8 (j : Int)) s := ⟨e, fun c c0 c1 => (hBi.1 hBt) c c0 c1⟩; rw [if_pos hBt, if_pos (by rw [h7]; exact q1), wrap_small (by omega) (by omega)]
    -- the next round ends the search, since the class is there now
    obtain ⟨k, rfl⟩ : ∃ m, k = m + 2 := ⟨k - 2, by omega⟩; have hrd : rd (x7.set s.toNat (j : Int)) s = (j : Int) := rd_set_same q0 (by rw [h7]; exact q1)
    have key : spec_l01Finer.j2 (k + 1) cl (n : Int) (x7.set s.toNat (j : Int)) x8 s ((j : Int) + 1) false t s0 ac ns = some r := by
     rw [spec_l01Finer.j2, if_neg (by simp), if_pos q0, if_pos (by rw [List.length_set, h7]; exact q1), if_neg (by rw [hrd]; omega), wrap_small q0 (by omega)]; exact hsome j _ hget hs k (by omega)
    rw [spec_l01Finer.l1]; by_cases e3 : (j : Int) + 1 < (x8.length : Int)
    ·rw [if_pos e3, if_pos q0, if_pos (by rw [List.length_set, h7]; exact q1), hrd, show decide ((j : Int) < 0) = false by simp]; exact key
    ·rw [if_neg e3]; exact key
   ·rw [if_neg hBt]; exact next (fun hs => hBt (hBi.2 (fun c' h1 h2 => hs.2 c' h1 h2)))
  ·rw [if_neg e]; exact next (fun hs => e hs.1)
/-- What holds of the classes found so far. -/
structure FindOK (W n : Nat) (ns : List (List Int)) (g : Int → Int) (s : Nat) (x7 x8 : List Int) : Prop where
 l7 : x7.length = n
 r8 : ∀ f ∈ x8, 0 ≤ f ∧ f < (s : Int)
 l8 : x8.length ≤ s
 apart : ∀ (i j : Nat) a b, x8[i]? = some a → x8[j]? = some b → SameC W ns g a b → i = j
 cls : ∀ i : Int, 0 ≤ i → i < (s : Int) → ∃ (j : Nat) (f : Int), rd x7 i = (j : Int) ∧ x8[j]? = some f ∧ SameC W ns g f i
 own : ∀ (j : Nat) f, x8[j]? = some f → rd x7 f = (j : Int)
theorem finer_l0 (hT : TableOK W n ns) (hcl : cl.length = n) (hW : W ≤ 1000) (hn : n ≤ 1000000) :
  ∀ (d : Nat) (s : Nat) (x7 x8 : List Int), s + d = n → FindOK W n ns (rd cl) s x7 x8 → ∃ (l : List Int) (x : List Int), FindOK W n ns (rd cl) n l x ∧ ∀ k, d * (2 * n + W + 20) + 1 ≤ k → spec_l01Finer.l0 k cl (n : Int) x7 x8 (s : Int) t s0 ac ns = some (l, (x.length : Int), t, s0) := by
 intro d
 induction d with
 | zero =>
  intro s x7 x8 hs hF; (have : s = n := by omega); subst this; refine ⟨x7, x8, hF, fun k hk => ?_⟩; obtain ⟨k, rfl⟩ : ∃ m, k = m + 1 := ⟨k - 1, by omega⟩; rw [spec_l01Finer.l0, if_neg (by omega)]
 | succ d ih =>
  intro s x7 x8 hs hF; (have q1 : (s : Int) < (n : Int) := by omega); (have hl7 : (x7.set (s : Int).toNat (-1)).length = n := by rw [List.length_set]; exact hF.l7); (have hneg : rd (x7.set (s : Int).toNat (-1)) (s : Int) < 0 := by rw [rd_set_same (by omega) (by rw [hF.l7]; exact q1)]; omega); (have hother : ∀ (v i : Int), 0 ≤ i → i ≠ (s : Int) → rd (((x7.set (s : Int).toNat (-1))).set (s : Int).toNat v) i = rd x7 i := fun v i h0 hi => by rw [rd_set_other (by omega) h0 (fun e => hi e.symm), rd_set_other (by omega) h0 (fun e => hi e.symm)]); have hself : ∀ v : Int, rd (((x7.set (s : Int).toNat (-1))).set (s : Int).toNat v) (s : Int) = v := fun v => rd_set_same (by omega) (by rw [hl7]; exact q1); by_cases hex : ∃ (i : Nat) (f : Int), x8[i]? = some f ∧ SameC W ns (rd cl) f (s : Int)
  ·obtain ⟨i, f, hif, hsame⟩ := hex
   have hF2 : FindOK W n ns (rd cl) (s + 1) ((x7.set (s : Int).toNat (-1)).set (s : Int).toNat (i : Int)) x8 := by
    refine ⟨by rw [List.length_set]; exact hl7, fun f hf => ?_, by have := hF.l8; omega, hF.apart, ?_, ?_⟩
    ·have := hF.r8 f hf; omega
    ·intro i' h0 h1; by_cases e : i' = (s : Int)
     ·rw [e]; exact ⟨i, f, hself _, hif, hsame⟩
     ·rw [hother _ i' h0 e]; exact hF.cls i' h0 (by omega)
    ·intro j f' hj; have := hF.r8 f' (List.mem_of_getElem? hj); rw [hother _ f' this.1 (by omega)]; exact hF.own j f' hj
   obtain ⟨l, x, hFn, hr⟩ := ih (s + 1) _ _ (by omega) hF2; refine ⟨l, x, hFn, fun k hk => ?_⟩; rw [Nat.add_mul, Nat.one_mul] at hk; obtain ⟨k, rfl⟩ : ∃ m, k = m + 1 := ⟨k - 1, by omega⟩; rw [spec_l01Finer.l0, if_pos q1, if_pos (by omega), if_pos (by rw [hF.l7]; exact q1)]; (have h8l : x8.length ≤ n := by have := hF.l8; omega); refine search_law (K := d * (2 * n + W + 20) + 1) (x8 := x8) hT hcl hW hn (by omega) q1 hl7 hneg (fun f hf => by have := hF.r8 f hf; omega) h8l (fun hno => absurd hsame (hno f (List.mem_of_getElem? hif))) (fun i2 f2 hif2 hs2 k' hk' => ?_) x8.length k 0 (by omega) (fun _ _ h => by omega) (by omega); have : i2 = i := hF.apart i2 i f2 f hif2 hif (hs2.trans hsame.symm); subst this; rw [show (s : Int) + 1 = ((s + 1 : Nat) : Int) by omega]; exact hr k' hk'
  ·have hno : ∀ f ∈ x8, ¬ SameC W ns (rd cl) f (s : Int) := by
    intro f hf hsame; obtain ⟨i, hi, he⟩ := List.getElem_of_mem hf; exact hex ⟨i, f, by rw [List.getElem?_eq_getElem hi, he], hsame⟩
   have hF2 : FindOK W n ns (rd cl) (s + 1) ((x7.set (s : Int).toNat (-1)).set (s : Int).toNat (x8.length : Int)) (x8 ++ [(s : Int)]) := by
    have hlast : ∀ (j : Nat) (a : Int), (x8 ++ [(s : Int)])[j]? = some a → (x8[j]? = some a ∧ j < x8.length) ∨ (j = x8.length ∧ a = (s : Int)) := by
     intro j a hj; by_cases e : j < x8.length
     ·rw [List.getElem?_append_left e] at hj; exact .inl ⟨hj, e⟩
     ·have := (List.getElem?_eq_some_iff.1 hj).1; simp at this; (have e2 : j = x8.length := by omega); subst e2; rw [List.getElem?_append_right (Nat.le_refl _)] at hj; simp at hj; exact .inr ⟨rfl, hj.symm⟩
    refine ⟨by rw [List.length_set]; exact hl7, ?_, by have := hF.l8; simp; omega, ?_, ?_, ?_⟩
    ·intro f hf
     rcases List.mem_append.1 hf with hf | hf
     ·have := hF.r8 f hf; omega
     ·simp at hf; omega
    ·intro i j a b hi hj hab
     rcases hlast i a hi with ⟨h1, h2⟩ | ⟨h1, h2⟩ <;> rcases hlast j b hj with ⟨h3, h4⟩ | ⟨h3, h4⟩
     ·exact hF.apart i j a b h1 h3 hab
     ·subst h4; exact absurd hab (hno a (List.mem_of_getElem? h1))
     ·subst h2; exact absurd hab.symm (hno b (List.mem_of_getElem? h3))
     ·omega
    ·intro i' h0 h1; by_cases e : i' = (s : Int)
     ·rw [e]; exact ⟨x8.length, (s : Int), hself _, by simp, rfl, fun c _ _ => rfl⟩
     ·rw [hother _ i' h0 e]; obtain ⟨j, f, h2, h3, h4⟩ := hF.cls i' h0 (by omega); exact ⟨j, f, h2, getE_app h3, h4⟩
    ·intro j f' hj
     rcases hlast j f' hj with ⟨h1, h2⟩ | ⟨h1, h2⟩
     ·have := hF.r8 f' (List.mem_of_getElem? h1); rw [hother _ f' this.1 (by omega)]; exact hF.own j f' h1
     ·rw [h2, h1]; exact hself _
   obtain ⟨l, x, hFn, hr⟩ := ih (s + 1) _ _ (by omega) hF2; refine ⟨l, x, hFn, fun k hk => ?_⟩; rw [Nat.add_mul, Nat.one_mul] at hk; obtain ⟨k, rfl⟩ : ∃ m, k = m + 1 := ⟨k - 1, by omega⟩; rw [spec_l01Finer.l0, if_pos q1, if_pos (by omega), if_pos (by rw [hF.l7]; exact q1)]; (have h8l : x8.length ≤ n := by have := hF.l8; omega); refine search_law (K := d * (2 * n + W + 20) + 1) (x8 := x8) hT hcl hW hn (by omega) q1 hl7 hneg (fun f hf => by have := hF.r8 f hf; omega) h8l (fun _ k' hk' => ?_) (fun i2 f2 hif2 hs2 k' hk' => absurd hs2 (hno f2 (List.mem_of_getElem? hif2))) x8.length k 0 (by omega) (fun _ _ h => by omega) (by omega); rw [show (s : Int) + 1 = ((s + 1 : Nat) : Int) by omega]; exact hr k' hk'
theorem finer_law (hT : TableOK W n ns) (hcl : cl.length = n) (hW : W ≤ 1000) (hn : n ≤ 1000000) : ∃ (l : List Int) (m : Nat), l.length = n ∧ m ≤ n ∧ Finer W n ns (rd cl) (rd l) m ∧ ∀ k, n * (2 * n + W + 20) + 1 ≤ k → spec_l01Finer.f k t s0 ac ns cl = some (l, (m : Int), t, s0) := by
 obtain ⟨l, x, hF, hr⟩ := finer_l0 (t := t) (s0 := s0) (ac := ac) hT hcl hW hn n 0 (List.replicate n 0) [] (by omega) ⟨by simp, by simp, by simp, by simp, fun i h0 h1 => by omega, by simp⟩; refine ⟨l, x.length, hF.l7, hF.l8, ⟨?_, ?_, ?_⟩, fun k hk => ?_⟩
 ·intro i j i0 i1 j0 j1; obtain ⟨a, fa, h1, h2, h3⟩ := hF.cls i i0 i1; obtain ⟨b, fb, h4, h5, h6⟩ := hF.cls j j0 j1; rw [h1, h4]; constructor
  ·intro e; (have : a = b := by omega); subst this; rw [h2] at h5; obtain rfl := Option.some.inj h5; exact h3.symm.trans h6
  ·intro e; have := hF.apart a b fa fb h2 h5 ((h3.trans e).trans h6.symm); rw [this]
 ·intro i i0 i1; obtain ⟨a, fa, h1, h2, h3⟩ := hF.cls i i0 i1; have := (List.getElem?_eq_some_iff.1 h2).1; rw [h1]; omega
 ·intro k hk; have h8 := hF.r8 x[k] (List.getElem_mem hk); exact ⟨x[k], h8.1, h8.2, hF.own k x[k] (List.getElem?_eq_getElem hk)⟩
 ·unfold spec_l01Finer.f; rw [if_pos (by omega), if_pos (by omega), hcl]; simp only [Int.toNat_natCast]; exact hr k hk
end
section
variable {W n : Nat} {ac : List Bool} {ns : List (List Int)} {t : Int}
theorem tclass_some (hT : TableOK W n ns) (hW : W ≤ 1000) (hn : n ≤ 1000000) {k : Nat} (hk : n * (2 * n + W + 20) + 1 ≤ k) : ∀ (f count : Nat) (cl : List Int), cl.length = n → ClassOK W n ac ns (rd cl) → count ≤ n → (∀ k : Nat, k < count → ∃ i, 0 ≤ i ∧ i < (n : Int) ∧ rd cl i = (k : Int)) → n + 1 ≤ f + count →
  ∃ (g : List Int) (m : Nat), tclassF k t ac ns f (count : Int) cl = some (g, (m : Int)) ∧ g.length = n ∧ m ≤ n ∧ ClassEq W n ac ns (rd g) ∧ ∀ i, 0 ≤ i → i < (n : Int) → 0 ≤ rd g i ∧ rd g i < (m : Int) := by
 intro f
 induction f with
 | zero => intro count cl _ _ h1 _ h2; omega
 | succ f ih =>
  intro count cl hcl hC hc hm hf; obtain ⟨l, m, hl, hmn, hfin, hr⟩ := finer_law (t := t) (s0 := 0) (ac := ac) hT hcl hW hn; rw [tclassF, hr k hk]; simp only [Option.bind_some, and_self, if_true]; by_cases e : m = count
  ·subst e; rw [if_pos rfl]; exact ⟨l, m, rfl, hl, hmn, hC.eq hT hfin hm, hfin.lo⟩
  ·rw [if_neg (by omega)]; have := hfin.le hm; exact ih m l hl (hC.next hT hfin) hmn hfin.met (by omega)
/-- 'l01Tidied', behind 'l01Right', makes the tidy table of the first state's language. -/
theorem tidiedF_law (hT : TableOK W n ns) (hn : ac.length = n) (h0 : 0 < n) (hW : W ≤ 1000) (hn2 : n ≤ 1000000) {k f : Nat} (hk : n * (2 * n + W + 20) + 1 ≤ k) (hf : n + 2 ≤ f) : ∃ r, tidiedF k f t ac ns = some r ∧ tidyD W f (lng W ac ns 0) = some r := by
 obtain ⟨g, m, hg, hgl, hmn, hE, hb⟩ := tclass_some (ac := ac) (t := t) hT hW hn2 hk f 0 (bitL ac) (by simp [bitL, hn]) (bitL_class hn) (by omega) (fun k hk => by omega) (by omega); have hb0 := hb 0 (by omega) (by omega); obtain ⟨r, hr, hd⟩ := tmain_law (m := m) hT hn (by omega) h0 hE hgl hb hf; refine ⟨r, ?_, hd⟩; unfold tidiedF; rw [show ((0 : Nat) : Int) = 0 from rfl] at hg; rw [hg]; simp only [Option.bind_some]; rw [if_pos (by omega), at1_in (by omega) (by omega)]; simp only [Option.bind_some]; rw [show rdOf 0 g 0 = rd g 0 from rfl, if_pos hb0]
 simpa using hr
end
section
variable {W n N kd : Nat} {ac : List Bool} {ns : List (List Int)} {pads : List Int} {tapes size : Int}
/-- The numbers of the pairs that were met. -/
structure NumOK (N : Nat) (nu l : List Int) : Prop where
 len : nu.length = N
 rng : ∀ v ∈ l, 0 ≤ v ∧ v < (N : Int)
 nod : l.Nodup
 num : ∀ v : Int, 0 ≤ v → v < (N : Int) → (rd nu v < 0 ∧ v ∉ l) ∨ ∃ i : Nat, rd nu v = (i : Int) ∧ l[i]? = some v
theorem NumOK.push {nu l : List Int} (h : NumOK N nu l) {v : Int} (v0 : 0 ≤ v) (v1 : v < (N : Int)) (hx : rd nu v < 0) : NumOK N (nu.set v.toNat (l.length : Int)) (l ++ [v]) := by
 have hnew : v ∉ l := by
  rcases h.num v v0 v1 with ⟨_, h2⟩ | ⟨i, h2, _⟩
  ·exact h2
  ·omega
 refine ⟨by simp [h.len], ?_, ?_, ?_⟩
 ·intro s hs
  rcases List.mem_append.1 hs with hs | hs
  ·exact h.rng s hs
  ·simp at hs; subst hs; exact ⟨v0, v1⟩
 ·exact List.nodup_append.2 ⟨h.nod, by simp, fun a ha b hb => by simp at hb; subst hb; exact fun he => hnew (he ▸ ha)⟩
 ·intro u u0 u1; by_cases e : v = u
  ·subst e; right; exact ⟨l.length, rd_set_same v0 (by rw [h.len]; exact v1), by simp⟩
  ·rw [rd_set_other v0 u0 e]
   rcases h.num u u0 u1 with ⟨h2, h3⟩ | ⟨i, h2, h3⟩
   ·left; refine ⟨h2, fun hm => ?_⟩
    rcases List.mem_append.1 hm with hm | hm
    ·exact h3 hm
    ·simp at hm; exact e hm.symm
   ·right; exact ⟨i, h2, getE_app h3⟩
def endE (pads : List Int) (p c : Int) : Int := if bits .andNot .i64 p (rd pads c) = 0 then rd pads c else -1
/-- An entry of a row: no state, or a pair that was met. -/
def EntryOK (size : Int) (pads : List Int) (ns : List (List Int)) (s p : Int) (l : List Int) (c x : Int) : Prop :=
 (endE pads p c < 0 ∧ x = -1) ∨ ∃ q : Nat, x = (q : Int) ∧ 0 ≤ endE pads p c ∧ l[q]? = some (stp ns s c * size + endE pads p c)
theorem EntryOK.app {s p : Int} {l d : List Int} {c x : Int} (h : EntryOK size pads ns s p l c x) : EntryOK size pads ns s p (l ++ d) c x := by
 rcases h with h | ⟨q, h1, h2, h3⟩
 ·exact .inl h
 ·exact .inr ⟨q, h1, h2, getE_app h3⟩
structure SizeOK (W n N : Nat) (size tapes : Int) (kd : Nat) (pads : List Int) : Prop where
 s1 : 1 ≤ size
 s8 : size ≤ 8
 N : (N : Int) = (n : Int) * size
 n : n ≤ 100000
 pl : pads.length = W
 pr : ∀ x ∈ pads, 0 ≤ x ∧ x < size
 en : ∀ p c, 0 ≤ p → p < size → 0 ≤ c → c < (W : Int) → spec_l01Ended.f kd tapes p c = some (endE pads p c)
theorem key_bound (hs : SizeOK W n N size tapes kd pads) {q e : Int} (q0 : 0 ≤ q) (q1 : q < (n : Int)) (e0 : 0 ≤ e) (e1 : e < size) : 0 ≤ q * size + e ∧ q * size + e < (N : Int) ∧ wrap64 (wrap64 (q * size) + e) = q * size + e ∧ (q * size + e) / size = q ∧ (q * size + e) % size = e := by
 have h0 : 0 ≤ q * size := Int.mul_nonneg q0 (by have := hs.s1; omega); have h1 : (q + 1) * size ≤ (n : Int) * size := Int.mul_le_mul_of_nonneg_right (by omega) (by have := hs.s1; omega); rw [Int.add_mul, Int.one_mul] at h1; have h2 : (n : Int) * size ≤ 100000 * 8 := Int.mul_le_mul (by have := hs.n; omega) hs.s8 (by have := hs.s1; omega) (by omega); have hN := hs.N; refine ⟨by omega, by omega, ?_, ?_, ?_⟩
 ·unfold wrap64; omega
 ·rw [Int.add_comm, Int.add_mul_ediv_right _ _ (by have := hs.s1; omega), Int.ediv_eq_zero_of_lt e0 e1, Int.zero_add]
 ·rw [Int.add_comm, Int.add_mul_emod_self_right, Int.emod_eq_of_lt e0 e1]
theorem key_parts (hs : SizeOK W n N size tapes kd pads) {v : Int} (v0 : 0 ≤ v) (v1 : v < (N : Int)) : wrap64 (Int.tdiv v size) = v / size ∧ Int.tmod v size = v % size ∧ 0 ≤ v / size ∧ v / size < (n : Int) ∧ 0 ≤ v % size ∧ v % size < size := by
 have hsz := hs.s1; have h0 : 0 ≤ v / size := Int.ediv_nonneg v0 (by omega); have h1 : v / size < (n : Int) := Int.ediv_lt_of_lt_mul (by omega) (by rw [← hs.N]; exact v1); refine ⟨?_, Int.tmod_eq_emod_of_nonneg v0, h0, h1, Int.emod_nonneg _ (by omega), Int.emod_lt_of_pos _ (by omega)⟩; rw [Int.tdiv_eq_ediv_of_nonneg v0]; have := hs.n; unfold wrap64; omega
theorem endE_range (hs : SizeOK W n N size tapes kd pads) {p c : Int} (c0 : 0 ≤ c) (c1 : c < (W : Int)) : endE pads p c = -1 ∨ (0 ≤ endE pads p c ∧ endE pads p c < size) := by
 unfold endE
 split
 ·exact .inr (rd_range hs.pr c0 (by rw [hs.pl]; exact c1))
 ·exact .inl rfl
theorem rrow_some (hs : SizeOK W n N size tapes kd pads) (hT : TableOK W n ns) {li : Int} (l0 : 0 ≤ li) (l1 : li < (N : Int)) :
  ∀ (m c : Nat) (nu l row : List Int), c + m = W → NumOK N nu l → ∃ nu1 d e, rrowF kd tapes size (rdOf [] ns (li / size)) li m c nu l row = some (nu1, l ++ d, row ++ e) ∧ NumOK N nu1 (l ++ d) ∧ e.length = m ∧ ∀ j : Nat, j < m → ∃ x, e[j]? = some x ∧ EntryOK size pads ns (li / size) (li % size) (l ++ d) ((c + j : Nat) : Int) x := by
 obtain ⟨k1, k2, k3, k4, k5, k6⟩ := key_parts hs l0 l1; intro m
 induction m with
 | zero => intro c nu l row _ hN; exact ⟨nu, [], [], by simp [rrowF], by simpa using hN, rfl, fun j hj => by omega⟩
 | succ m ih =>
  intro c nu l row hc hN; (have c1 : (c : Int) < (W : Int) := by omega); rw [rrowF, k2, hs.en _ _ k5 k6 (by omega) c1]; simp only [Option.bind_some]
  rcases endE_range hs (p := li % size) (c := (c : Int)) (by omega) c1 with he | ⟨e0, e1⟩
  ·rw [if_pos (by omega)]; obtain ⟨nu1, d, e, h1, h2, h3, h4⟩ := ih (c + 1) nu l (row ++ [-1]) (by omega) hN; refine ⟨nu1, d, -1 :: e, by simpa using h1, h2, by simp [h3], fun j hj => ?_⟩
   cases j with
   | zero => exact ⟨-1, by simp, .inl ⟨by rw [Nat.add_zero]; omega, rfl⟩⟩
   | succ j =>
    obtain ⟨x, hx, hx2⟩ := h4 j (by omega); exact ⟨x, by simpa using hx, by rw [show c + (j + 1) = c + 1 + j by omega]; exact hx2⟩
  ·rw [if_neg (by omega)]; have hrow := hT.row k3 k4; rw [at1_in (by omega) (by rw [show (rdOf [] ns (li / size)).length = W from (hT.2 _ hrow).1]; exact c1)]; simp only [Option.bind_some]; have est : rdOf 0 (rdOf [] ns (li / size)) (c : Int) = stp ns (li / size) (c : Int) := rfl; rw [est]; have hst := hT.stpd k3 k4 (c := (c : Int)) (by omega) c1; obtain ⟨b1, b2, b3, b4, b5⟩ := key_bound hs hst.1 hst.2 e0 e1; rw [b3, at1_in b1 (by rw [hN.len]; exact b2)]; simp only [Option.bind_some]; rw [show rdOf 0 nu (stp ns (li / size) (c : Int) * size + endE pads (li % size) (c : Int)) = rd nu (stp ns (li / size) (c : Int) * size + endE pads (li % size) (c : Int)) from rfl]
   rcases hN.num _ b1 b2 with ⟨h2, h3⟩ | ⟨i, h2, h3⟩
   ·rw [if_pos h2]; have hlen := nodup_len l ((List.range N).map (fun k : Nat => (k : Int))) hN.nod (fun v hv => by have := hN.rng v hv; exact List.mem_map.2 ⟨v.toNat, List.mem_range.2 (by omega), by omega⟩)
    have hlen2 : N ≤ 800000 := by
     have := hs.N; have h5 : (n : Int) * size ≤ 100000 * 8 := Int.mul_le_mul (by have := hs.n; omega) hs.s8 (by have := hs.s1; omega) (by omega); omega
    rw [if_pos (by simp at hlen; omega)]; obtain ⟨nu1, d, e, h5, h6, h7, h8⟩ := ih (c + 1) _ _ (row ++ [(l.length : Int)]) (by omega) (hN.push b1 b2 h2); refine ⟨nu1, _ :: d, (l.length : Int) :: e, by simpa using h5, by simpa using h6, by simp [h7], fun j hj => ?_⟩
    cases j with
    | zero => exact ⟨_, by simp, .inr ⟨l.length, rfl, by rw [Nat.add_zero]; exact e0, by simp⟩⟩
    | succ j =>
     obtain ⟨x, hx, hx2⟩ := h8 j (by omega); exact ⟨x, by simpa using hx, by rw [show c + (j + 1) = c + 1 + j by omega]; simpa using hx2⟩
   ·rw [if_neg (by omega), h2]; obtain ⟨nu1, d, e, h5, h6, h7, h8⟩ := ih (c + 1) nu l (row ++ [(i : Int)]) (by omega) hN; refine ⟨nu1, d, (i : Int) :: e, by simpa using h5, h6, by simp [h7], fun j hj => ?_⟩
    cases j with
    | zero => exact ⟨_, by simp, .inr ⟨i, rfl, by rw [Nat.add_zero]; exact e0, by rw [Nat.add_zero]; exact getE_app h3⟩⟩
    | succ j =>
     obtain ⟨x, hx, hx2⟩ := h8 j (by omega); exact ⟨x, by simpa using hx, by rw [show c + (j + 1) = c + 1 + j by omega]; exact hx2⟩
/-- The rows made so far. -/
structure RmOK (W N : Nat) (size : Int) (pads : List Int) (ac : List Bool) (ns : List (List Int)) (nu l : List Int) (bs : List Bool) (rs : List (List Int)) : Prop where
 nu : NumOK N nu l
 len : rs.length = bs.length
 le : bs.length ≤ l.length
 acc : ∀ (i : Nat) b, bs[i]? = some b → ∃ v, l[i]? = some v ∧ b = rdOf false ac (v / size)
 row : ∀ (i : Nat) row, rs[i]? = some row → row.length = W ∧ ∃ v, l[i]? = some v ∧ ∀ j : Nat, j < W → ∃ x, row[j]? = some x ∧ EntryOK size pads ns (v / size) (v % size) l (j : Int) x
theorem rmain_some (hs : SizeOK W n N size tapes kd pads) (hT : TableOK W n ns) (hn : ac.length = n) :
  ∀ (f : Nat) (nu l : List Int) (bs : List Bool) (rs : List (List Int)), RmOK W N size pads ac ns nu l bs rs → N < f + bs.length → ∃ bsF rsF nuF lF, rmainF kd tapes size W ac ns f nu l bs rs = some (bsF, rsF, l ++ lF) ∧ RmOK W N size pads ac ns nuF (l ++ lF) bsF rsF ∧ bsF.length = (l ++ lF).length := by
 intro f
 induction f with
 | zero =>
  intro nu l bs rs hR hf; have hlen := nodup_len l ((List.range N).map (fun k : Nat => (k : Int))) hR.nu.nod (fun v hv => by have := hR.nu.rng v hv; exact List.mem_map.2 ⟨v.toNat, List.mem_range.2 (by omega), by omega⟩); have := hR.le; simp at hlen; omega
 | succ f ih =>
  intro nu l bs rs hR hf; rw [rmainF]
  cases e : l[bs.length]? with
  | none =>
   have := List.getElem?_eq_none_iff.1 e; have := hR.le; exact ⟨bs, rs, nu, [], by simp, by simpa using hR, by simp; omega⟩
  | some li =>
   simp only; obtain ⟨v0, v1⟩ := hR.nu.rng li (List.mem_of_getElem? e); obtain ⟨k1, k2, k3, k4, k5, k6⟩ := key_parts hs v0 v1; rw [k1, at1_in k3 (by rw [hT.1]; exact k4)]; simp only [Option.bind_some]; rw [at1_in k3 (by omega)]; simp only [Option.bind_some]; obtain ⟨nu1, d, e1, h1, h2, h3, h4⟩ := rrow_some hs hT v0 v1 W 0 nu l [] (by omega) hR.nu; rw [h1]; simp only [Option.bind_some, List.nil_append]; have hlt := (List.getElem?_eq_some_iff.1 e).1
   have hR2 : RmOK W N size pads ac ns nu1 (l ++ d) (bs ++ [rdOf false ac (li / size)]) (rs ++ [e1]) := by
    refine ⟨h2, by simp [hR.len], by simp; omega, ?_, ?_⟩
    ·intro i b hb; by_cases ei : i < bs.length
     ·rw [List.getElem?_append_left ei] at hb; obtain ⟨v, h5, h6⟩ := hR.acc i b hb; exact ⟨v, getE_app h5, h6⟩
     ·have hi : i = bs.length := by
       have := (List.getElem?_eq_some_iff.1 hb).1; simp at this; omega
      subst hi; rw [List.getElem?_append_right (Nat.le_refl _)] at hb; simp at hb; exact ⟨li, getE_app e, hb.symm⟩
    ·intro i row hr; by_cases ei : i < rs.length
     ·rw [List.getElem?_append_left ei] at hr; obtain ⟨h0, v, h5, h6⟩ := hR.row i row hr; refine ⟨h0, v, getE_app h5, fun j hj => ?_⟩; obtain ⟨x, hx, hx2⟩ := h6 j hj; exact ⟨x, hx, hx2.app⟩
     ·have hi : i = rs.length := by
       have := (List.getElem?_eq_some_iff.1 hr).1; simp at this; omega
      subst hi; rw [List.getElem?_append_right (Nat.le_refl _)] at hr; simp at hr; subst hr; refine ⟨h3, li, getE_app (by rw [hR.len]; exact e), fun j hj => ?_⟩; obtain ⟨x, hx, hx2⟩ := h4 j hj; exact ⟨x, hx, by rw [Nat.zero_add] at hx2; exact hx2⟩
   obtain ⟨bsF, rsF, nuF, lF, h5, h6, h7⟩ := ih nu1 (l ++ d) _ _ hR2 (by simp; omega); exact ⟨bsF, rsF, nuF, d ++ lF, by simpa using h5, by simpa using h6, by simpa using h7⟩
theorem rightF_law (hs : SizeOK W n N size tapes kd pads) (hT : TableOK W n ns) (hn : ac.length = n) {start : Int} (s0 : 0 ≤ start) (s1 : start < (n : Int)) {f : Nat} (hf : N < f) :
  ∃ r, rightF kd tapes size W N f start ac ns = some r ∧ 0 < r.1.length ∧ r.1.length ≤ N + 1 ∧ TableOK W r.1.length r.2 ∧ lng W r.1 r.2 0 = lngR W pads ac ns (start, 0) := by
 obtain ⟨b1, b2, b3, b4, b5⟩ := key_bound hs s0 s1 (e := 0) (by omega) (by have := hs.s1; omega); rw [Int.add_zero] at b1 b2 b4 b5
 have hw : wrap64 (start * size) = start * size := by
  have h2 : (n : Int) * size ≤ 100000 * 8 := Int.mul_le_mul (by have := hs.n; omega) hs.s8 (by have := hs.s1; omega) (by omega); have hN := hs.N; unfold wrap64; omega
 have hNu : NumOK N ((List.replicate N (-1)).set (start * size).toNat 0) [start * size] := by
  refine ⟨by simp, by simp; omega, by simp, fun v v0 v1 => ?_⟩; by_cases e : start * size = v
  ·right; exact ⟨0, by rw [← e]; exact rd_set_same b1 (by simp; omega), by simp [e]⟩
  ·left; rw [rd_set_other b1 v0 e]; refine ⟨?_, by simpa using fun h => e h.symm⟩
   have : rd (List.replicate N (-1)) v = -1 := by
    (have hv : v.toNat < N := by omega); simp [rd, List.getD_eq_getElem?_getD, hv]
   omega
 obtain ⟨bs, rs, nu, lF, hr, hR, hl⟩ := rmain_some hs hT hn f _ _ [] [] ⟨hNu, rfl, by simp, by simp, by simp⟩ (by simpa using hf); generalize hL : [start * size] ++ lF = L at hr hR hl; have hLl := nodup_len L ((List.range N).map (fun k : Nat => (k : Int))) hR.nu.nod (fun v hv => by have := hR.nu.rng v hv; exact List.mem_map.2 ⟨v.toNat, List.mem_range.2 (by omega), by omega⟩); simp at hLl; refine ⟨_, by unfold rightF; rw [hw, if_pos ⟨b1, b2⟩, hr]; rfl, by simp, by simp; omega, ?_, ?_⟩
 ·refine ⟨by simp [hR.len], fun row hrow => ?_⟩; simp only [List.length_append, List.length_cons, List.length_nil]
  rcases List.mem_append.1 hrow with h | h
  ·obtain ⟨row0, h0, rfl⟩ := List.mem_map.1 h; obtain ⟨i, hi, he⟩ := List.getElem_of_mem h0; obtain ⟨hW, v, _, hj⟩ := hR.row i row0 (by rw [List.getElem?_eq_getElem hi, he]); refine ⟨by simp [fixRow, hW], fun x hx => ?_⟩; obtain ⟨y, hy, rfl⟩ := List.mem_map.1 hx; obtain ⟨j, hj1, hj2⟩ := List.getElem_of_mem hy; obtain ⟨x2, hx2, hE⟩ := hj j (by omega); rw [List.getElem?_eq_getElem hj1, hj2] at hx2; obtain rfl := Option.some.inj hx2
   rcases hE with ⟨_, h5⟩ | ⟨q, h5, _, h6⟩
   ·rw [h5]; simp; omega
   ·have := (List.getElem?_eq_some_iff.1 h6).1; rw [h5, if_neg (by omega)]; omega
  ·simp at h; subst h; refine ⟨by simp, fun x hx => ?_⟩; rw [List.eq_of_mem_replicate hx]; omega
 ·have hdead : ∀ w, lng W (bs ++ [false]) (rs.map (fixRow (L.length : Int)) ++ [List.replicate W (L.length : Int)]) (L.length : Int) w = false := by
   intro w
   induction w with
   | nil =>
    simp only [lng, rdOf, Int.toNat_natCast]; rw [List.getD_eq_getElem?_getD, ← hl, List.getElem?_append_right (Nat.le_refl _)]; simp
   | cons c w ih =>
    simp only [lng]; by_cases c0 : 0 ≤ c
    ·by_cases c1 : c < (W : Int)
     ·have : stp (rs.map (fixRow (L.length : Int)) ++ [List.replicate W (L.length : Int)]) (L.length : Int) c = (L.length : Int) := by
       simp only [stp, Int.toNat_natCast]; rw [List.getD_eq_getElem?_getD, List.getElem?_append_right (by simp [hR.len, hl])]; (have hcW : c.toNat < W := by omega); simp [hR.len, hl, rd, List.getD_eq_getElem?_getD, hcW]
      rw [this, ih]; simp
     ·simp [c1]
    ·simp [c0]
  have key : ∀ (w : List Int) (i : Nat) (v : Int), L[i]? = some v → lng W (bs ++ [false]) (rs.map (fixRow (L.length : Int)) ++ [List.replicate W (L.length : Int)]) (i : Int) w = lngR W pads ac ns (v / size, v % size) w := by
   intro w
   induction w with
   | nil =>
    intro i v hv; have hi := (List.getElem?_eq_some_iff.1 hv).1; obtain ⟨v0, v1⟩ := hR.nu.rng v (List.mem_of_getElem? hv); obtain ⟨k1, k2, k3, k4, k5, k6⟩ := key_parts hs v0 v1; (have hib : i < bs.length := by omega); obtain ⟨v', h1, h2⟩ := hR.acc i bs[i] (List.getElem?_eq_getElem hib); rw [hv] at h1; obtain rfl := Option.some.inj h1; simp only [lng, lngR, rdOf, Int.toNat_natCast, k5, decide_true, Bool.true_and]; rw [List.getD_eq_getElem?_getD, List.getElem?_append_left hib, List.getElem?_eq_getElem hib, h2]; rfl
   | cons c w ih =>
    intro i v hv; have hi := (List.getElem?_eq_some_iff.1 hv).1; obtain ⟨v0, v1⟩ := hR.nu.rng v (List.mem_of_getElem? hv); obtain ⟨k1, k2, k3, k4, k5, k6⟩ := key_parts hs v0 v1; simp only [lng, lngR, k5, decide_true, Bool.true_and]; by_cases c0 : 0 ≤ c
    ·by_cases c1 : c < (W : Int)
     ·simp only [c0, c1, decide_true, Bool.true_and]; (have hir : i < rs.length := by rw [hR.len]; omega); obtain ⟨hW, v', h1, hj⟩ := hR.row i rs[i] (List.getElem?_eq_getElem hir); rw [hv] at h1; obtain rfl := Option.some.inj h1; obtain ⟨x, hx, hE⟩ := hj c.toNat (by omega); rw [show ((c.toNat : Nat) : Int) = c by omega] at hE
      have hst : stp (rs.map (fixRow (L.length : Int)) ++ [List.replicate W (L.length : Int)]) (i : Int) c = if x < 0 then (L.length : Int) else x := by
       simp only [stp, Int.toNat_natCast]; rw [List.getD_eq_getElem?_getD, List.getElem?_append_left (by simpa using hir), List.getElem?_map, List.getElem?_eq_getElem hir]; simp [rd, List.getD_eq_getElem?_getD, fixRow, hx]
      rw [hst]
      rcases hE with ⟨h5, h6⟩ | ⟨q, h5, h6, h7⟩
      ·rw [h6, if_pos (by omega), hdead]
       have : ¬ bits .andNot .i64 (v % size) (rd pads c) = 0 := by
        intro hb; unfold endE at h5; rw [if_pos hb] at h5; have := rd_range hs.pr c0 (by rw [hs.pl]; exact c1); omega
       simp [this]
      ·rw [h5, if_neg (by omega)]
       have hb : bits .andNot .i64 (v % size) (rd pads c) = 0 := by
        by_cases hb : bits .andNot .i64 (v % size) (rd pads c) = 0
        ·exact hb
        ·unfold endE at h6; rw [if_neg hb] at h6; omega
       (have he : endE pads (v % size) c = rd pads c := by unfold endE; rw [if_pos hb]); rw [ih q _ h7, he]; have hpr := rd_range hs.pr c0 (by rw [hs.pl]; exact c1); have hst2 := hT.stpd k3 k4 c0 c1; obtain ⟨_, _, _, d4, d5⟩ := key_bound hs hst2.1 hst2.2 hpr.1 hpr.2; rw [d4, d5]; simp [hb]
     ·simp [c1]
    ·simp [c0]
  funext w
  have h0 := key w 0 (start * size) (by rw [← hL]; simp); rw [b4, b5] at h0; exact h0
end
attribute [local go_sem] max2_int min2_int max_two min_two max_three min_three max_four min_four
end Go.Proofs.YtocfcpicleomcaaDoor.X
