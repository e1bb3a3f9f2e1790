import Derived.Test.YtelicdmaohllgaaDoorCAP2
import Derived.Lib.AppendIntMem
import Derived.Shelf.LaysM
import Derived.Shelf.Strconv.Itoa3
import Derived.Test.YtelicdmaohllgaaDoorCAP3
import Derived.Test.YtelicdmaohllgaaDoorCAP4
import Derived.Carry
import Derived.Outline
import Derived.StringKeys
import Derived.Lib.ItoaLen
namespace Go.Proofs.YtelicdmaohllgaaDoor.X
set_option maxHeartbeats 16000000
set_option maxRecDepth 100000
open Go.RowKit Go.Proofs.YtelicdmaohllgaaDoorW.PrintWords Go.Proofs.YtelicdmaohllgaaDoorW.PrintLast Go.Proofs.YtelicdmaohllgaaDoorW.PrintMore
set_option linter.unusedVariables false
set_option linter.unusedSimpArgs false
def itoaM_ren : Go.Shelf.Ren := ⟨fun | 171 => 197 | 243 => 216 | 246 => 202 | 283 => 217 | 284 => 218 | 285 => 219 | 286 => 220 | 129 => 231 | 317 => 230 | 318 => 232 | 319 => 233 | 320 => 234 | 337 => 244 | 338 => 245 | n => n, fun | 3 => 3 | 9 => 9 | 2 => 2 | 4 => 4 | 171 => 225 | 0 => 0 | 53 => 226 | 37 => 126 | 5 => 5 | 173 => 229 | 212 => 235 | 51 => 236 | 20 => 20 | 213 => 237 | 46 => 180 | 232 => 254 | 233 => 255 | n => n, fun | 17 => 3 | 18 => 6 | 19 => 7 | n => n⟩
theorem itoaM : Go.Proofs.LaysM.n171 Tryd.prog itoaM_ren := {
 mixed := by kernel_rfl
 f129 := Tryd.func231.trans (congrArg some (by kernel_rfl))
 f171 := Tryd.func197.trans (congrArg some (by kernel_rfl))
 f243 := Tryd.func216.trans (congrArg some (by kernel_rfl))
 f246 := Tryd.func202.trans (congrArg some (by kernel_rfl))
 f283 := Tryd.func217.trans (congrArg some (by kernel_rfl))
 f284 := Tryd.func218.trans (congrArg some (by kernel_rfl))
 f285 := Tryd.func219.trans (congrArg some (by kernel_rfl))
 f286 := Tryd.func220.trans (congrArg some (by kernel_rfl))
 f317 := Tryd.func230.trans (congrArg some (by kernel_rfl))
 f318 := Tryd.func232.trans (congrArg some (by kernel_rfl))
 f319 := Tryd.func233.trans (congrArg some (by kernel_rfl))
 f320 := Tryd.func234.trans (congrArg some (by kernel_rfl))
 f337 := Tryd.func244.trans (congrArg some (by kernel_rfl))
 f338 := Tryd.func245.trans (congrArg some (by kernel_rfl))
 t0 := Tryd.underlying0
 a0 := Tryd.isAgg0
 z0 := Tryd.sizeOf0
 v0 := Tryd.zeroValue0
 t2 := Tryd.underlying2
 a2 := Tryd.isAgg2
 z2 := Tryd.sizeOf2
 v2 := Tryd.zeroValue2
 t3 := Tryd.underlying3
 a3 := Tryd.isAgg3
 z3 := Tryd.sizeOf3
 v3 := Tryd.zeroValue3
 t4 := Tryd.underlying4
 a4 := Tryd.isAgg4
 z4 := Tryd.sizeOf4
 v4 := Tryd.zeroValue4
 t5 := Tryd.underlying5
 a5 := Tryd.isAgg5
 z5 := Tryd.sizeOf5
 v5 := Tryd.zeroValue5
 t9 := Tryd.underlying9
 a9 := Tryd.isAgg9
 z9 := Tryd.sizeOf9
 v9 := Tryd.zeroValue9
 t20 := Tryd.underlying20
 a20 := Tryd.isAgg20
 z20 := Tryd.sizeOf20
 v20 := Tryd.zeroValue20
 t37 := Tryd.underlying126
 a37 := Tryd.isAgg126
 z37 := Tryd.sizeOf126
 v37 := Tryd.zeroValue126
 t46 := Tryd.underlying180
 a46 := Tryd.isAgg180
 z46 := Tryd.sizeOf180
 v46 := Tryd.zeroValue180
 t51 := Tryd.underlying236
 a51 := Tryd.isAgg236
 z51 := Tryd.sizeOf236
 v51 := Tryd.zeroValue236
 t53 := Tryd.underlying226
 a53 := Tryd.isAgg226
 z53 := Tryd.sizeOf226
 v53 := Tryd.zeroValue226
 t171 := Tryd.underlying225
 a171 := Tryd.isAgg225
 z171 := Tryd.sizeOf225
 v171 := Tryd.zeroValue225
 t173 := Tryd.underlying229
 a173 := Tryd.isAgg229
 z173 := Tryd.sizeOf229
 v173 := Tryd.zeroValue229
 t212 := Tryd.underlying235
 a212 := Tryd.isAgg235
 z212 := Tryd.sizeOf235
 v212 := Tryd.zeroValue235
 t213 := Tryd.underlying237
 a213 := Tryd.isAgg237
 z213 := Tryd.sizeOf237
 t232 := Tryd.underlying254
 a232 := Tryd.isAgg254
 z232 := Tryd.sizeOf254
 v232 := Tryd.zeroValue254
 t233 := Tryd.underlying255
 a233 := Tryd.isAgg255
 z233 := Tryd.sizeOf255
 v233 := Tryd.zeroValue255
 g17 := by kernel_rfl
 g18 := by kernel_rfl
 g19 := by kernel_rfl
 i0 := by kernel_rfl
 i2 := by kernel_rfl
 i3 := by kernel_rfl
 i4 := by kernel_rfl
 i5 := by kernel_rfl
 i9 := by kernel_rfl
 i20 := by kernel_rfl
 i37 := by kernel_rfl
 i46 := by kernel_rfl
 i51 := by kernel_rfl
 i53 := by kernel_rfl
 i171 := by kernel_rfl
 i173 := by kernel_rfl
 i212 := by kernel_rfl
 i232 := by kernel_rfl
 i233 := by kernel_rfl
 m17 := by kernel_rfl
 m18 := by kernel_rfl
 m19 := by kernel_rfl }
open Go.RowKit Go.Sort Go.Lib in
theorem itoa_calls (n : Int) (h0 : -9223372036854775808 ≤ n) (h1 : n ≤ 9223372036854775807) (w : World) (htab : Lib.TabIs Tryd.prog w "internal/strconv.uint64pow10" .u64 Lib.pow10Tab) :
  Calls Tryd.prog 197 #[.int .i64 n] w fun e w' => e = .returned (.string ⟨(Lib.itoa n).toArray⟩) ∧ ∃ k os, w' = grow (w.drewN k) os := Any.strconv_Itoa itoaM n h0 h1 w htab
open Go.Sort in
theorem below_grown (w : World) (n : Nat) (os : Array Obj) : Below w.heap.size w (grow (w.drewN n) os) := by
 refine Below.trans (pw_below_drewN (Below.refl _ w) n) ?_; exact ⟨rfl, rfl, rfl, by simp [grow], fun k hk => by simp [grow, Array.getElem?_append, show k < w.heap.size from hk]⟩
/-- The table of the digits' number, as every later world of the call has it. -/
def TabOK (w : World) : Prop := Lib.TabBelow Tryd.prog w.heap.size w "internal/strconv.uint64pow10" .u64 Lib.pow10Tab
theorem itoa_on {w : World} (h : TabOK w) (n : Int) (h0 : -9223372036854775808 ≤ n) (h1 : n ≤ 9223372036854775807) {W : World} (hb : Below w.heap.size w W) :
  Calls Tryd.prog 197 #[.int .i64 n] W fun e w' => e = .returned (.string ⟨(Lib.itoa n).toArray⟩) ∧ Below W.heap.size W w' := by
 refine (itoa_calls n h0 h1 W (h W hb)).mono ?_; rintro e w' ⟨rfl, k, os, rfl⟩; exact ⟨rfl, below_grown W k os⟩
/-- The key's text, from a row's states on. -/
def keyL (group : List Int) : List Int → List UInt8 → Option (List UInt8)
 | [], key => some key
 | q :: r, key => (at1 0 group q).bind fun g => keyL group r (key ++ (44 :: Lib.itoa g))
/-- Where a key stands. -/
def idxG {κ : Type} [DecidableEq κ] (l : List κ) (k : κ) : Int := (l.idxOf k : Int)
/-- One round: the keys met so far (a class a key), the next classes. -/
def roundM (group : List Int) : List (List Int) → Nat → List (List UInt8) → List Int → Option (List (List UInt8) × List Int)
 | [], _, keys, next => some (keys, next)
 | row :: rs, i, keys, next => (at1 0 group (i : Int)).bind fun g => (keyL group row (Lib.itoa g)).bind fun key =>
   if key ∈ keys then roundM group rs (i + 1) keys (next.set i (idxG keys key)) else roundM group rs (i + 1) (keys ++ [key]) (next.set i (keys.length : Int))
def mergeL (ns : List (List Int)) : Nat → Nat → List Int → Option (List Int)
 | 0, _, _ => none
 | f + 1, count, group => (roundM group ns 0 [] (List.replicate group.length 0)).bind fun p => if p.1.length = count then some p.2 else mergeL ns f p.1.length p.2
/-- A state of each class (the last one). -/
def oneL : List Int → Nat → List Int → Option (List Int)
 | [], _, one => some one
 | g :: r, i, one => if 0 ≤ g ∧ g < (one.length : Int) then oneL r (i + 1) (one.set g.toNat (i : Int)) else none
def bitL (ac : List Bool) : List Int := ac.map fun b => if b then 1 else 0
def mergedF (W f : Nat) (start : Int) (ac : List Bool) (ns : List (List Int)) : Option (List Bool × List (List Int)) :=
 (mergeL ns f 0 (bitL ac)).bind fun group => (oneL group 0 (List.replicate group.length 0)).bind fun one => (at1 0 group start).bind fun gs =>
  if inI64 gs = true then growL inI64 (accM one ac) (nextM group one ns) W f [gs] [] [] else none
/-- The machine's box, the result's box, the variable 'group' and what it holds. -/
def MI (w W : World) (mb : Array Value) (gv : Nat) (own : Nat → Nat) (vg : Value) (lg : List Int) : Prop :=
 (W.heap[w.heap.size]? = some (.cells mb 78 (0, 0)) ∧ own w.heap.size = 4) ∧
 (W.heap[w.heap.size + 1]? = some (.cells #[.int .i64 0, .int .i64 0, .slice none 0 0, .slice none 0 0] 78 (0, 0)) ∧ own (w.heap.size + 1) = 6) ∧
 (W.heap[gv]? = some (.cells #[vg] 68 (0, 0)) ∧ own gv = 5) ∧
 (Kd.int .i64).R 3 W w.heap.size (fun k => own k = 1) vg lg ∧ Below w.heap.size w W
section
variable {w W W1 : World} {mb : Array Value} {gv : Nat} {own : Nat → Nat} {vg : Value} {lg : List Int}
theorem MI.below (h : MI w W mb gv own vg lg) (hb : Below W.heap.size W W1) : MI w W1 mb gv own vg lg := by
 obtain ⟨⟨h1, h2⟩, ⟨h3, h4⟩, ⟨h5, h6⟩, h7, h8⟩ := h; exact ⟨⟨blk_below h1 hb, h2⟩, ⟨blk_below h3 hb, h4⟩, ⟨blk_below h5 hb, h6⟩, Kd.R_below h7 hb, below_then h8 h8.size hb⟩
/-- New blocks, and writes to a row that is none of these. -/
theorem MI.other (h : MI w W mb gv own vg lg) {row : Option Nat} {t : Nat} (hg : W.grownBy W1 row) (hr : ∀ k, row = some k → retag own W.heap.size t k = t) (hb : Below w.heap.size w W1) (ht : 6 < t) : MI w W1 mb gv (retag own W.heap.size t) vg lg := by
 obtain ⟨h1, h3, h5, h7, h8⟩ := h; exact ⟨blk_otherT h1 hg hr (by omega), blk_otherT h3 hg hr (by omega), blk_otherT h5 hg hr (by omega), R_otherT h7 hg hr (by omega), hb⟩
/-- An element of the row is written. -/
theorem MI.set {g n c : Nat} (h : MI w W mb gv own (.slice (some ⟨g, 0, none⟩) n c) lg) (i x : Int) : MI w (W.setCell ⟨g, i.toNat, none⟩ (.int .i64 x)) mb gv own (.slice (some ⟨g, 0, none⟩) n c) (lg.set i.toNat x) := by
 obtain ⟨⟨h1, h2⟩, ⟨h3, h4⟩, ⟨h5, h6⟩, h7, h8⟩ := h; obtain ⟨rfl, -, -⟩ := Kd.R_reads' h7; have hg : own g = 1 := h7.1 g rfl; have hbase := Kd.R_base h7 g rfl; obtain ⟨hR, -⟩ := Kd.R_put h7 i x; refine ⟨⟨blk_far h1 (fun e => ?_) _, h2⟩, ⟨blk_far h3 (fun e => ?_) _, h4⟩, ⟨blk_far h5 (fun e => ?_) _, h6⟩, hR, h8.setCell hbase _⟩
 ·have e' : w.heap.size = g := e; rw [e'] at h2; omega
 ·have e' : w.heap.size + 1 = g := e; rw [e'] at h4; omega
 ·have e' : gv = g := e; rw [e'] at h6; omega
/-- An element of another row is written. -/
theorem MI.far (h : MI w W mb gv own vg lg) {g : Nat} (hb : w.heap.size ≤ g) (hg : 6 < own g) (j : Nat) (x : Value) : MI w (W.setCell ⟨g, j, none⟩ x) mb gv own vg lg := by
 obtain ⟨⟨h1, h2⟩, ⟨h3, h4⟩, ⟨h5, h6⟩, h7, h8⟩ := h; (have ne : ∀ k t, own k = t → t ≤ 6 → k ≠ g := fun k t h ht e => by rw [e] at h; omega); exact ⟨⟨blk_far h1 (ne _ _ h2 (by omega)) _, h2⟩, ⟨blk_far h3 (ne _ _ h4 (by omega)) _, h4⟩, ⟨blk_far h5 (ne _ _ h6 (by omega)) _, h6⟩, Kd.R_far h7 (fun k hk => ne k 1 hk (by omega)) x, h8.setCell hb x⟩
/-- A cell of the row. -/
theorem MI.get (h : MI w W mb gv own vg lg) (i : Int) (h0 : 0 ≤ i) (h1 : i < (lg.length : Int)) : ∃ g c, vg = .slice (some ⟨g, 0, none⟩) lg.length c ∧ W.cell? ⟨g, i.toNat, none⟩ = some (.int .i64 (rd lg i)) ∧ W.frozen? ⟨g, i.toNat, none⟩ = false := by
 obtain ⟨_, _, _, h7, _⟩ := h; obtain ⟨g, c, rfl, _⟩ := Kd.R_form h7 (by omega); obtain ⟨a, b⟩ := Kd.R_cell (0 : Int) h7 i h0 h1; exact ⟨g, c, rfl, a, b⟩
end
theorem bit_step {ac : List Bool} {i : Nat} (h : i < ac.length) (l : List Int) (hl : l = bitL (ac.take i) ++ List.replicate (ac.length - i) 0) : (if rdOf false ac (i : Int) = true then l.set i 1 else l) = bitL (ac.take (i + 1)) ++ List.replicate (ac.length - (i + 1)) 0 := by
 subst hl
 have e : List.replicate (ac.length - i) (0 : Int) = 0 :: List.replicate (ac.length - (i + 1)) 0 := by
  rw [show ac.length - i = (ac.length - (i + 1)) + 1 by omega, List.replicate_succ]
 (have hr : rdOf false ac (i : Int) = ac[i] := by simp [rdOf, List.getD_eq_getElem?_getD, List.getElem?_eq_getElem h]); (have hb : (bitL (ac.take i)).length = i := by simp [bitL]; omega); rw [e, List.take_succ_eq_append_getElem h, hr]; by_cases hc : ac[i] = true
 ·rw [if_pos hc]
  have key : ∀ (a b : List Int) (x y : Int) (n : Nat), a.length = n → (a ++ y :: b).set n x = a ++ x :: b := by
   intro a b x y n hn; subst hn; simp
  rw [key _ _ 1 0 i hb]; simp [bitL, hc]
 ·rw [if_neg hc]; simp [bitL, hc]
theorem mi_start {w w4 : World} {mb zb : Array Value} {Ag : Option Addr} {cg n : Nat} (hz : zb = #[.int .i64 0, .int .i64 0, .slice none 0 0, .slice none 0 0])
  (ho : (Kd.int .i64).R 3 w4 w.heap.size (fun k => w.heap.size + 2 ≤ k) (.slice Ag (List.replicate (n : Int).toNat (0 : Int)).length cg) (List.replicate (n : Int).toNat 0))
  (hg : ((w.alloc (.cells mb 78)).alloc (.cells zb 78)).grownBy w4 none) (hb : Below w.heap.size w w4) :
  ∃ own, MI w (w4.alloc (.cells #[.slice Ag n cg] 68)) mb w4.heap.size own (.slice Ag n cg) (List.replicate n 0) := by
 subst hz; rw [List.length_replicate, Int.toNat_natCast] at ho; (have hsz : w.heap.size + 2 ≤ w4.heap.size := by have := hg.size; simp at this; omega); refine ⟨fun k => if k = w.heap.size then 4 else if k = w.heap.size + 1 then 6 else if k = w4.heap.size then 5 else 1, ⟨?_, by simp⟩, ⟨?_, by simp⟩, ⟨blk_new w4 _, by simp [show ¬ w4.heap.size = w.heap.size by omega, show ¬ w4.heap.size = w.heap.size + 1 by omega]⟩, ?_, hb.alloc (by omega) _⟩
 ·exact blk_alloc (blk_grown (blk_alloc (blk_new w _) _) hg (by simp)) _
 ·refine blk_alloc (blk_grown (g := w.heap.size + 1) (by have := blk_new (w.alloc (.cells mb 78)) (.cells #[.int .i64 0, .int .i64 0, .slice none 0 0, .slice none 0 0] 78); simpa using this) hg (by simp)) _
 ·refine Kd.R_alloc (Kd.R_mono (Kd.R_bound ho) (fun k hk => ?_)) _; have h1 := hk.1; have h2 := hk.2.2.1; show (if k = w.heap.size then 4 else if k = w.heap.size + 1 then 6 else if k = w4.heap.size then 5 else 1) = 1; rw [if_neg (by omega), if_neg (by omega), if_neg (by omega)]
def litS (k : List UInt8) : Lit := .string k
theorem litS_inj (a b : List UInt8) (h : litS a = litS b) : a = b := by injection h
theorem litS_key (a : List UInt8) : WideAt.IsKeyLit (litS a) := trivial
theorem idsD_tidy {K : Type} {lit : K → Lit} (hk : ∀ a, WideAt.IsKeyLit (lit a)) : ∀ l : List K, Maps.Tidy (idsD lit l) :=
 snoc_ind Maps.tidy_empty (fun l k ih => by rw [idsD_snoc]; exact ih.put (hk k) _)
theorem idsD_size {K : Type} [DecidableEq K] {lit : K → Lit} (hi : ∀ a b, lit a = lit b → a = b) (hk : ∀ a, WideAt.IsKeyLit (lit a)) : ∀ l : List K, l.Nodup → (Maps.size (idsD lit l) : Int) = (l.length : Int) := by
 refine snoc_ind (fun _ => rfl) (fun l k ih hn => ?_); have hn' := List.nodup_append.1 hn; rw [idsD_snoc, Maps.size_put (idsD_tidy hk l), idsD_has hi hk, if_neg (by simpa using fun h => hn'.2.2 k h k (by simp) rfl)]; have := ih hn'.1; simp only [List.length_append, List.length_cons, List.length_nil]; omega
/-- .. and the map of the keys, and the next classes. -/
def MR (w W : World) (mb : Array Value) (gv : Nat) (own : Nat → Nat) (vg : Value) (lg : List Int) (bm : Nat) (keys : List (List UInt8)) (vn : Value) (nx : List Int) : Prop :=
 MI w W mb gv own vg lg ∧ (W.ownsMap Tryd.prog 9 (plainElem Tryd.prog 3) bm keys.length (idsD litS keys) ∧ own bm = 7) ∧ (Kd.int .i64).R 3 W w.heap.size (fun k => own k = 8) vn nx ∧ keys.Nodup ∧ w.heap.size ≤ bm
section
variable {w W W1 : World} {mb : Array Value} {gv : Nat} {own : Nat → Nat} {vg : Value} {lg : List Int} {bm : Nat} {keys : List (List UInt8)} {vn : Value} {nx : List Int}
theorem MR.below (h : MR w W mb gv own vg lg bm keys vn nx) (hb : Below W.heap.size W W1) : MR w W1 mb gv own vg lg bm keys vn nx := by
 obtain ⟨h1, ⟨h2, h3⟩, h4, h5, h6⟩ := h; exact ⟨h1.below hb, ⟨map_below h2 hb, h3⟩, Kd.R_below h4 hb, h5, h6⟩
/-- A new key was put into the map. -/
theorem MR.put (h : MR w W mb gv own vg lg bm keys vn nx) {key : List UInt8} (hk : key ∉ keys) (hm : W1.ownsMap Tryd.prog 9 (plainElem Tryd.prog 3) bm (keys.length + 1) (idsD litS (keys ++ [key]))) (hg : W.grownBy W1 (some bm)) :
  MR w W1 mb gv (retag own W.heap.size 7) vg lg bm (keys ++ [key]) vn nx := by
 obtain ⟨h1, ⟨h2, h3⟩, h4, h5, h6⟩ := h; (have e : retag own W.heap.size 7 bm = 7 := by rw [retag_lt h2.lt]; exact h3)
 have hr : ∀ k, some bm = some k → retag own W.heap.size 7 k = 7 := by
  intro k hk; injection hk with hk; subst hk; exact e
 refine ⟨h1.other hg hr (h1.2.2.2.2.grown hg h1.2.2.2.2.size (fun k hk => by injection hk with hk; omega)) (by omega), ⟨by simpa using hm, e⟩, R_otherT h4 hg hr (by omega), ?_, h6⟩; refine List.nodup_append.2 ⟨h5, by simp, fun a ha b hb => ?_⟩; simp at hb; subst hb; exact fun he => hk (he ▸ ha)
/-- A class was noted. -/
theorem MR.set {g n c : Nat} (h : MR w W mb gv own vg lg bm keys (.slice (some ⟨g, 0, none⟩) n c) nx) (i x : Int) : MR w (W.setCell ⟨g, i.toNat, none⟩ (.int .i64 x)) mb gv own vg lg bm keys (.slice (some ⟨g, 0, none⟩) n c) (nx.set i.toNat x) := by
 obtain ⟨h1, ⟨h2, h3⟩, h4, h5, h6⟩ := h; obtain ⟨rfl, -, -⟩ := Kd.R_reads' h4; have hg : own g = 8 := h4.1 g rfl; have hbase := Kd.R_base h4 g rfl; obtain ⟨hR, -⟩ := Kd.R_put h4 i x; exact ⟨h1.far hbase (by omega) _ _, ⟨h2.setCell (fun e => by have e' : bm = g := e; rw [e'] at h3; omega) _, h3⟩, hR, h5, h6⟩
/-- The next classes become the classes. -/
theorem MR.turn (h : MR w W mb gv own vg lg bm keys vn nx) (hgb : w.heap.size ≤ gv) : MI w (W.setCell ⟨gv, 0, none⟩ vn) mb gv (fun k => if own k = 8 then 1 else if own k = 1 then 9 else own k) vn nx := by
 obtain ⟨⟨⟨a1, a2⟩, ⟨b1, b2⟩, ⟨c1, c2⟩, d, e⟩, _, h4, _, _⟩ := h; (have ne : ∀ k t, own k = t → t ≠ 5 → k ≠ gv := fun k t h ht e => by rw [e] at h; omega); refine ⟨⟨blk_far a1 (ne _ _ a2 (by omega)) _, by simp [a2]⟩, ⟨blk_far b1 (ne _ _ b2 (by omega)) _, by simp [b2]⟩, ⟨by simpa using blk_set c1 0 vn, by simp [c2]⟩, ?_, e.setCell hgb _⟩; refine Kd.R_mono (Kd.R_far (p := ⟨gv, 0, none⟩) h4 (fun k hk => ne k 8 hk (by omega)) vn) (fun k hk => by simp [hk])
theorem MR.getN (h : MR w W mb gv own vg lg bm keys vn nx) (i : Int) (h0 : 0 ≤ i) (h1 : i < (nx.length : Int)) : ∃ g c, vn = .slice (some ⟨g, 0, none⟩) nx.length c ∧ W.cell? ⟨g, i.toNat, none⟩ = some (.int .i64 (rd nx i)) ∧ W.frozen? ⟨g, i.toNat, none⟩ = false := by
 obtain ⟨_, _, h4, _⟩ := h; obtain ⟨g, c, rfl, _⟩ := Kd.R_form h4 (by omega); obtain ⟨a, b⟩ := Kd.R_cell (0 : Int) h4 i h0 h1; exact ⟨g, c, rfl, a, b⟩
end
theorem mr_start {w wr w5 : World} {mb : Array Value} {gv : Nat} {own : Nat → Nat} {vg : Value} {lg : List Int} {A : Option Addr} {c n : Nat} (h : MI w wr mb gv own vg lg)
  (ho : (Kd.int .i64).R 3 w5 w.heap.size (fun k => wr.heap.size + 1 ≤ k) (.slice A (List.replicate (n : Int).toNat (0 : Int)).length c) (List.replicate (n : Int).toNat 0))
  (hg : (wr.alloc (.map #[] 0)).grownBy w5 none) (hb : Below w.heap.size w w5) :
  ∃ own', MR w w5 mb gv own' vg lg wr.heap.size [] (.slice A n c) (List.replicate n 0) := by
 rw [List.length_replicate, Int.toNat_natCast] at ho; have hsz := h.2.2.2.2.size; have hb1 : Below wr.heap.size wr (wr.alloc (.map #[] 0)) := (Below.refl _ _).alloc (Nat.le_refl _) _; have h1 := h.other (t := 7) (grown_of_below hb1 none) (fun k hk => by cases hk) (h.2.2.2.2.alloc hsz _) (by omega); have h2 := h1.other (t := 8) hg (fun k hk => by cases hk) hb (by omega); have hm : (wr.alloc (.map #[] 0)).ownsMap Tryd.prog 9 (plainElem Tryd.prog 3) wr.heap.size 0 (.map [] : DataW Unit) := made_at _ rfl; have hm2 := map_otherT (own := retag own wr.heap.size 7) (s := 7) (row := none) (t := 8) ⟨hm, retag_ge (Nat.le_refl _)⟩ hg (fun k hk => by cases hk) (by omega); refine ⟨_, h2, ⟨by simpa [idsD] using hm2.1, hm2.2⟩, ?_, by simp, hsz⟩; refine Kd.R_mono ho (fun k hk => retag_ge (by simpa using hk))
theorem rd_mem_ {l : List Int} {k : Nat} (h : k < l.length) : rdOf 0 l (k : Int) ∈ l := by
 simp only [rdOf, Int.toNat_natCast, List.getD_eq_getElem?_getD, List.getElem?_eq_getElem h, Option.getD_some]; exact List.getElem_mem h
theorem rd_mem_i {l : List Int} {k : Int} (h0 : 0 ≤ k) (h : k < (l.length : Int)) : rdOf 0 l k ∈ l := by
 (have e : k = ((k.toNat : Nat) : Int) := by omega); rw [e]; exact rd_mem_ (by omega)
theorem key_size {s : ByteArray} {l : List UInt8} {j : Nat} (h : s.size ≤ 22 * (j + 1)) (hl : l.length ≤ 21) : (s ++ ((⟨#[44]⟩ : ByteArray) ++ ⟨l.toArray⟩)).size ≤ 22 * (j + 1 + 1) := by
 (have e : ((⟨l.toArray⟩ : ByteArray)).size = l.length := by show l.toArray.size = _; simp); have e1 : ((⟨#[44]⟩ : ByteArray)).size = 1 := rfl; rw [ByteArray.size_append, ByteArray.size_append, e, e1]; omega
theorem key_of {P : Program} {k : TypeId} (hk : P.underlying k = some .string) {s : ByteArray} {key : List UInt8} (h : s.data.toList = key) (hs : s.size ≤ 22 * 1001) : keyOf P k (.string s) = some (litS key) := by
 rw [WideMaps.keyOf_string_mk hk (by unfold maxLen; omega), h]; rfl
theorem set_bounds {nx : List Int} {i : Nat} {x : Int} (h : ∀ y ∈ nx, 0 ≤ y ∧ y ≤ 1900000) (h0 : 0 ≤ x) (h1 : x ≤ 1900000) : ∀ y ∈ nx.set i x, 0 ≤ y ∧ y ≤ 1900000 := by
 intro y hy
 rcases List.mem_or_eq_of_mem_set hy with hy | rfl
 ·exact h y hy
 ·exact ⟨h0, h1⟩
section
variable {P : Program} (w : World) {ops : Array Oper} {rest : List Oper} {o : Oper} {a : Act} {Q : Exit → Act → World → Prop}
theorem wpList_key_in (hg : o.guard = none) (m x : Operand) (t : TypeId) (hop : o.op = Op.lookup t m x true) {k e : TypeId} {b n : Nat} {l : List (List UInt8)} (KK : Maps.Keyed P k) (ht : P.underlying t = some (.map k e)) (he : P.underlying e = some (.int .i64))
  (hz : (zeroValue e).run P w = .ok (.int .i64 0) w) (hm : a.eval m = .map (some b)) (hown : w.ownsMap P k (plainElem P e) b n (idsD litS l)) (hn : l.Nodup) (key : Value) (y : List UInt8) (hx : a.eval x = key) (hkey : keyOf P k key = some (litS y)) (hin : y ∈ l)
  (hK : wpList P ops Q rest (a.put o.dst (.tuple #[.int .i64 (idxG l y), .bool true])) w) : wpList P ops Q (o :: rest) a w :=
 wpList_ids_look w hg m x t hop litS_inj litS_key KK ht he hz hm hown hn key y hx hkey (idxG l y) true (by rw [if_pos hin]; rfl) (by simpa using hin) hK
theorem wpList_key_out (hg : o.guard = none) (m x : Operand) (t : TypeId) (hop : o.op = Op.lookup t m x true) {k e : TypeId} {b n : Nat} {l : List (List UInt8)} (KK : Maps.Keyed P k) (ht : P.underlying t = some (.map k e)) (he : P.underlying e = some (.int .i64))
  (hz : (zeroValue e).run P w = .ok (.int .i64 0) w) (hm : a.eval m = .map (some b)) (hown : w.ownsMap P k (plainElem P e) b n (idsD litS l)) (hn : l.Nodup) (key : Value) (y : List UInt8) (hx : a.eval x = key) (hkey : keyOf P k key = some (litS y)) (hin : ¬ y ∈ l)
  (hK : wpList P ops Q rest (a.put o.dst (.tuple #[.int .i64 0, .bool false])) w) : wpList P ops Q (o :: rest) a w :=
 wpList_ids_look w hg m x t hop litS_inj litS_key KK ht he hz hm hown hn key y hx hkey 0 false (by rw [if_neg hin]) (by simpa using hin) hK
end
theorem idxG_lt {κ : Type} [DecidableEq κ] {l : List κ} {k : κ} (h : k ∈ l) : 0 ≤ idxG l k ∧ idxG l k < (l.length : Int) := by
 have := List.idxOf_lt_length_iff.2 h; unfold idxG; omega
def MO (w W : World) (mb : Array Value) (gv : Nat) (own : Nat → Nat) (vg : Value) (lg : List Int) (go : Nat) (vo : Value) (ol : List Int) : Prop :=
 MI w W mb gv own vg lg ∧ (W.heap[go]? = some (.cells #[vo] 68 (0, 0)) ∧ own go = 7) ∧ (Kd.int .i64).R 3 W w.heap.size (fun k => own k = 8) vo ol
section
variable {w W W1 : World} {mb : Array Value} {gv : Nat} {own : Nat → Nat} {vg : Value} {lg : List Int} {go : Nat} {vo : Value} {ol : List Int}
theorem MO.below (h : MO w W mb gv own vg lg go vo ol) (hb : Below W.heap.size W W1) : MO w W1 mb gv own vg lg go vo ol := by
 obtain ⟨h1, ⟨h2, h3⟩, h4⟩ := h; exact ⟨h1.below hb, ⟨blk_below h2 hb, h3⟩, Kd.R_below h4 hb⟩
theorem MO.set {g n c : Nat} (h : MO w W mb gv own vg lg go (.slice (some ⟨g, 0, none⟩) n c) ol) (i x : Int) : MO w (W.setCell ⟨g, i.toNat, none⟩ (.int .i64 x)) mb gv own vg lg go (.slice (some ⟨g, 0, none⟩) n c) (ol.set i.toNat x) := by
 obtain ⟨h1, ⟨h2, h3⟩, h4⟩ := h; obtain ⟨rfl, -, -⟩ := Kd.R_reads' h4; have hg : own g = 8 := h4.1 g rfl; have hbase := Kd.R_base h4 g rfl; obtain ⟨hR, -⟩ := Kd.R_put h4 i x; exact ⟨h1.far hbase (by omega) _ _, ⟨blk_far h2 (fun e => by have e' : go = g := e; rw [e'] at h3; omega) _, h3⟩, hR⟩
theorem MO.getO (h : MO w W mb gv own vg lg go vo ol) (i : Int) (h0 : 0 ≤ i) (h1 : i < (ol.length : Int)) : ∃ g c, vo = .slice (some ⟨g, 0, none⟩) ol.length c ∧ W.cell? ⟨g, i.toNat, none⟩ = some (.int .i64 (rd ol i)) ∧ W.frozen? ⟨g, i.toNat, none⟩ = false := by
 obtain ⟨_, _, h4⟩ := h; obtain ⟨g, c, rfl, _⟩ := Kd.R_form h4 (by omega); obtain ⟨a, b⟩ := Kd.R_cell (0 : Int) h4 i h0 h1; exact ⟨g, c, rfl, a, b⟩
end
theorem mo_start {w wr w5 : World} {mb : Array Value} {gv : Nat} {own : Nat → Nat} {vg : Value} {lg : List Int} {A : Option Addr} {c n : Nat} (h : MI w wr mb gv own vg lg)
  (ho : (Kd.int .i64).R 3 w5 w.heap.size (fun k => wr.heap.size ≤ k) (.slice A (List.replicate (n : Int).toNat (0 : Int)).length c) (List.replicate (n : Int).toNat 0))
  (hg : wr.grownBy w5 none) (hb : Below w.heap.size w w5) :
  ∃ own', MO w (w5.alloc (.cells #[.slice A n c] 68)) mb gv own' vg lg w5.heap.size (.slice A n c) (List.replicate n 0) := by
 rw [List.length_replicate, Int.toNat_natCast] at ho; have h1 := h.other (t := 8) hg (fun k hk => by cases hk) hb (by omega); have hb5 : Below w5.heap.size w5 (w5.alloc (.cells #[.slice A n c] 68)) := (Below.refl _ _).alloc (Nat.le_refl _) _; have h2 := h1.other (t := 7) (grown_of_below hb5 none) (fun k hk => by cases hk) (hb.alloc hb.size _) (by omega); refine ⟨_, h2, ⟨blk_new w5 _, retag_ge (Nat.le_refl _)⟩, ?_⟩; refine Kd.R_alloc (R_tag (s := 8) (Kd.R_mono ho (fun k hk => retag_ge hk)) 7) _
/-- What stands behind the call of 'grow', whichever came first, the call or the new box. -/
def MG (w W : World) (va vr : Value) (b : Nat) (bs : List Bool) (rs : List (List Int)) : Prop :=
 Kd.bool.R 4 W w.heap.size (fun _ => True) va bs ∧ Kd.S (Kd.slice 3 (Kd.int .i64)) 68 W w.heap.size (fun _ => True) vr rs ∧
 W.heap[b]? = some (.cells #[.int .i64 0, .int .i64 0, .slice none 0 0, .slice none 0 0] 78 (0, 0)) ∧ w.heap.size + 2 ≤ b ∧
 W.heap[w.heap.size + 1]? = some (.cells #[.int .i64 0, .int .i64 0, .slice none 0 0, .slice none 0 0] 78 (0, 0)) ∧ Below w.heap.size w W
theorem mg_call {w W w1 : World} {mb : Array Value} {gv : Nat} {own : Nat → Nat} {vg : Value} {lg : List Int} (h : MI w W mb gv own vg lg) {va vr : Value} {bs : List Bool} {rs : List (List Int)}
  (hR : Kd.bool.R 4 w1 W.heap.size (fun _ => True) va bs) (hS : Kd.S (Kd.slice 3 (Kd.int .i64)) 68 w1 W.heap.size (fun _ => True) vr rs) (hb : Below W.heap.size W w1) (hsz : w.heap.size + 2 ≤ W.heap.size) :
  MG w (w1.alloc (.cells #[.int .i64 0, .int .i64 0, .slice none 0 0, .slice none 0 0] 78)) va vr w1.heap.size bs rs := by
 have h0 := h.2.2.2.2.size; have h1 := hb.size; exact ⟨Kd.R_alloc (Kd.R_lower hR h0) _, Kd.S_below (Kd.S_lower hS h0) ((Below.refl _ _).alloc (Nat.le_refl _) _), blk_new w1 _, by omega, blk_alloc (blk_below h.2.1.1 hb) _, (below_then h.2.2.2.2 h0 hb).alloc (by omega) _⟩
theorem mg_call2 {w W w1 : World} {mb : Array Value} {gv : Nat} {own : Nat → Nat} {vg : Value} {lg : List Int} (h : MI w W mb gv own vg lg) {va vr : Value} {bs : List Bool} {rs : List (List Int)}
  (hR : Kd.bool.R 4 w1 (W.heap.size + 1) (fun _ => True) va bs) (hS : Kd.S (Kd.slice 3 (Kd.int .i64)) 68 w1 (W.heap.size + 1) (fun _ => True) vr rs)
  (hb : Below (W.alloc (.cells #[.int .i64 0, .int .i64 0, .slice none 0 0, .slice none 0 0] 78)).heap.size (W.alloc (.cells #[.int .i64 0, .int .i64 0, .slice none 0 0, .slice none 0 0] 78)) w1) (hsz : w.heap.size + 2 ≤ W.heap.size) :
  MG w w1 va vr W.heap.size bs rs := by
 have h0 := h.2.2.2.2.size; have ha : Below W.heap.size W (W.alloc (.cells #[.int .i64 0, .int .i64 0, .slice none 0 0, .slice none 0 0] 78)) := (Below.refl _ _).alloc (Nat.le_refl _) _; refine ⟨Kd.R_lower hR (by omega), Kd.S_lower hS (by omega), blk_below (blk_new W _) hb, hsz, blk_below (blk_alloc h.2.1.1 _) hb, ?_⟩; have hsz2 := ha.size; exact below_then (below_then h.2.2.2.2 h0 ha) (by omega) hb
/-- .. the box is filled, and the result. -/
theorem mg_end {w W : World} {va vr : Value} {b : Nat} {bs : List Bool} {rs : List (List Int)} (h : MG w W va vr b bs rs) (x y : Value) :
  Kd.bool.R 4 (set4 (set4 W b x y va vr) (w.heap.size + 1) x y va vr) w.heap.size (fun _ => True) va bs ∧ Kd.S (Kd.slice 3 (Kd.int .i64)) 68 (set4 (set4 W b x y va vr) (w.heap.size + 1) x y va vr) w.heap.size (fun _ => True) vr rs ∧ Below w.heap.size w (set4 (set4 W b x y va vr) (w.heap.size + 1) x y va vr) := by
 obtain ⟨h1, h2, h3, h4, h5, h6⟩ := h; (have h5' : (set4 W b x y va vr).heap[w.heap.size + 1]? = some (.cells #[.int .i64 0, .int .i64 0, .slice none 0 0, .slice none 0 0] 78 (0, 0)) := by rw [set4_other (by omega)]; exact h5); exact ⟨R_set4 (R_set4 h1 h3 (by decide) _ _ _ _) h5' (by decide) _ _ _ _, S_set4 (S_set4 h2 h3 (by decide) _ _ _ _) h5' (by decide) _ _ _ _, below_set4 (below_set4 h6 (by omega) _ _ _ _) (by omega) _ _ _ _⟩
theorem mo_clos {w W : World} {tapes start : Int} {Aa An : Option Addr} {ca cn : Nat} {ac : List Bool} {ns : List (List Int)} {gv go : Nat} {own : Nat → Nat} {A B : Option Addr} {c d n m : Nat} {lg ol : List Int} (h : MO w W #[.int .i64 tapes, .int .i64 start, .slice Aa ac.length ca, .slice An ns.length cn] gv own (.slice A n c) lg go (.slice B m d) ol)
  (hA : Kd.C Kd.bool w Aa ac.length ac) (hN : Kd.C (Kd.slice 3 (Kd.int .i64)) w An ns.length ns) : MachAt W w.heap.size tapes start ac ns ∧ VarAt W gv lg ∧ VarAt W go ol := by
 obtain ⟨⟨h1, h2, h3, h4, h5⟩, h6, h7⟩ := h; obtain ⟨rfl, _, hC⟩ := Kd.R_reads' h4; obtain ⟨rfl, _, hD⟩ := Kd.R_reads' h7; exact ⟨⟨Aa, ca, An, cn, h1.1, Kd.C_below hA h5, Kd.C_below hN h5⟩, ⟨A, c, h3.1, hC⟩, ⟨B, d, h6.1, hD⟩⟩
def MergedPost (w : World) (tapes : Int) (bs : List Bool) (rs : List (List Int)) (e : Ending) (w' : World) : Prop :=
 ∃ va vr, e = .returned (.agg #[.int .i64 tapes, .int .i64 0, va, vr]) ∧ Kd.bool.R 4 w' w.heap.size (fun _ => True) va bs ∧ Kd.S (Kd.slice 3 (Kd.int .i64)) 68 w' w.heap.size (fun _ => True) vr rs ∧ Below w.heap.size w w'
theorem merged_calls {W f : Nat} {tapes start : Int} {ac : List Bool} {ns : List (List Int)} {kw : Nat} {as1 : List Bool} {rs1 : List (List Int)} (w : World) (htab : TabOK w) (Aa : Option Addr) (ca : Nat) (An : Option Addr) (cn : Nat) (hA : Kd.C Kd.bool w Aa ac.length ac) (hN : Kd.C (Kd.slice 3 (Kd.int .i64)) w An ns.length ns)
  (hw : impl_widthOf.f kw tapes = some (W : Int)) (hW : W ≤ 1000) (hlen : ac.length ≤ 1900000) (hnl : ns.length = ac.length) (hrw : ∀ row ∈ ns, row.length ≤ 1000) (h : mergedF W f start ac ns = some (as1, rs1)) :
  Calls Tryd.prog 171 #[.agg #[.int .i64 tapes, .int .i64 start, .slice Aa ac.length ca, .slice An ns.length cn]] w (MergedPost w tapes as1 rs1) := by
 have HT := am htab; have HA := am hA; have HN := am hN; have HW := am hw; have HL := am hlen; have HNL := am hnl; have HRW := am hrw; clear hnl hrw; obtain ⟨group, hgroup, h1⟩ := oB h; clear h; obtain ⟨one, hone, h2⟩ := oB h1; clear h1; obtain ⟨gs, hgs, h⟩ := oB h2; clear h2
 have hin : inI64 gs = true := by
  by_cases e : inI64 gs = true
  ·exact e
  ·rw [if_neg e] at h; cases h
 rw [if_pos hin] at h; have HGr := am hgroup; have HOn := am hone; have HGs := am hgs; have HIn := am hin; have HH := am h; clear htab hA hN hw hlen h hgroup hone hgs hin; have hmm := @run_makeMap Tryd.prog; have c0 : (0 ≤ (ac.length : Int)) = True := eq_true (by omega); go_enter Tryd.func171, Tryd.ntmps171
 go_wp2_with (first | ((with_reducible refine gate_dst (N := 24) rfl ?_); refine Kd.R_make (Kd.int .i64) (w0 := w) w.heap.size 3 rfl (N := 24) rfl 68 _ _ rfl (ac.length : Int) rfl rfl Tryd.underlying68 (.int .i64 0) 8 info3 rfl (by decide) (by omega) 0 (ok := fun k => w.heap.size + 2 ≤ k) (okp := fun _ => False) rfl (fun _ hk => hk.elim) (by simp) (by omega) (by have := HL.out; omega) (((Below.refl w.heap.size w).alloc (Nat.le_refl _) _).alloc (by simp) _) (by simp; omega) ?_; intro v24 w4 ho hb hg_ hnew_; obtain ⟨Ag, cg, hv⟩ := Kd.R_slice ho; subst hv; have HO := am ho; have HG := am hg_; have HB := am hb; have b1 := blk_grown (o := .cells #[.int .i64 tapes, .int .i64 start, .slice Aa ac.length ca, .slice An ns.length cn] 78 (0, 0)) (blk_alloc (blk_new w _) _) hg_ (by simp); have m2 : (w4.alloc (.cells #[.slice Ag ac.length cg] 68)).cell? ⟨w.heap.size, 2, none⟩ = some (.slice Aa ac.length ca) := (blk_cell (blk_alloc b1 _) 2).trans rfl; clear hg_ hnew_ ho hb))
 obtain ⟨own, hI⟩ := mi_start (n := ac.length) (Ag := Ag) (cg := cg) rfl HO.out HG.out HB.out; have HGV := am (show w.heap.size ≤ w4.heap.size by have := HB.out.size; omega); have HI := am hI; clear hI HO HG HB b1 m2
 generalize hgv : w4.heap.size = gv at HI HGV ⊢
 generalize w4.alloc _ = W0 at HI ⊢
 clear hgv c0 w4
 go_loopg [28] ac.length (fun kq v28 w' => ∃ (own : Nat → Nat) (i : Nat) (vg : Value) (lg : List Int), v28 = .int .i64 (i : Int) ∧ Aside0 (i + kq = ac.length) ∧ Aside0 (MI w w' #[.int .i64 tapes, .int .i64 start, .slice Aa ac.length ca, .slice An ns.length cn] gv own vg lg) ∧ Aside0 (lg = bitL (ac.take i) ++ List.replicate (ac.length - i) 0))
 case atStart => exact ⟨own, 0, _, _, by simp, ⟨by omega⟩, HI, ⟨by simp [bitL]⟩⟩
 case round =>
  clear HI; obtain ⟨own, i, vg, lg, rfl, HK, HI, HE⟩ := hrel
  cases gk with
  | zero =>
   (have hi : i = ac.length := by have := HK.out; omega); subst hi; have c1 : decide ((ac.length : Int) < (ac.length : Int)) = false := decide_eq_false (by omega); have c2 : decide (ac.length < ac.length) = false := decide_eq_false (by omega); (obtain rfl : lg = bitL ac := by have := HE.out; simpa using this); clear HE HK c1 c2; go_wp2; (have hl0 : (bitL ac).length = ac.length := by simp [bitL])
   have hb0 : ∀ x ∈ bitL ac, 0 ≤ x ∧ x ≤ 1900000 := by
    intro x hx; obtain ⟨b, _, rfl⟩ := List.mem_map.1 hx
    cases b <;> simp
   have HL0 := am hl0; have HB0 := am hb0; clear hl0 hb0
   go_loopg [6] f (fun kq v6 w' => ∃ (own : Nat → Nat) (vg : Value) (lg : List Int) (count : Nat), v6 = .int .i64 (count : Int) ∧ Aside0 (MI w w' #[.int .i64 tapes, .int .i64 start, .slice Aa ac.length ca, .slice An ns.length cn] gv own vg lg) ∧ Aside0 (mergeL ns kq count lg = some group) ∧ Aside0 (lg.length = ac.length ∧ count ≤ 1900000 ∧ ∀ x ∈ lg, 0 ≤ x ∧ x ≤ 1900000))
   case atStart => exact ⟨own, vg, bitL ac, 0, by simp, HI, HGr, ⟨HL0.out, by omega, HB0.out⟩⟩
   case round =>
    clear HI HL0 HB0; obtain ⟨own, vg, lg, count, rfl, HI, HM, HLB⟩ := hrel
    cases gk with
    | zero => exact absurd HM.out (by simp [mergeL])
    | succ k1 =>
     obtain ⟨⟨D, nxF⟩, hround, hM⟩ := oB HM.out; have HRd := am hround; have HM1 := am hM; clear HM hround hM; obtain ⟨Ag1, cg1, rfl⟩ := Kd.R_slice HI.out.2.2.2.1; have hlg : lg.length = ac.length := HLB.out.1; have v0 : (wr.alloc (.map #[] 0)).cell? ⟨gv, 0, none⟩ = some (.slice Ag1 lg.length cg1) := (blk_cell (blk_alloc HI.out.2.2.1.1 _) 0).trans rfl; have b1 := HI.out.1.1; have c0 : (0 ≤ (lg.length : Int)) = True := eq_true (by omega); have HLG := am hlg; clear hlg
     go_wp2_with (first | ((with_reducible refine gate_dst (N := 41) rfl ?_); refine Kd.R_make (Kd.int .i64) (w0 := w) w.heap.size 3 rfl (N := 41) rfl 68 _ _ rfl (lg.length : Int) rfl rfl Tryd.underlying68 (.int .i64 0) 8 info3 rfl (by decide) (by omega) 0 (ok := fun k => wr.heap.size + 1 ≤ k) (okp := fun _ => False) rfl (fun _ hk => hk.elim) (by simp) (by omega) (by have := HL.out; have := HLG.out; omega) (HI.out.2.2.2.2.alloc HI.out.2.2.2.2.size _) (by have := HI.out.2.2.2.2.size; simp; omega) ?_; intro v41 w5 ho hb hg_ hnew_; obtain ⟨A41, c41, hv⟩ := Kd.R_slice ho; subst hv; have HO := am ho; have HG := am hg_; have HB := am hb; have m3 : w5.cell? ⟨w.heap.size, 3, none⟩ = some (.slice An ns.length cn) := (blk_cell (blk_grown (blk_alloc b1 _) hg_ (by simp)) 3).trans rfl; clear hg_ hnew_ ho hb))
     obtain ⟨own1, hR⟩ := mr_start (n := lg.length) HI.out HO.out HG.out HB.out; have HR := am hR; clear hR HO HG HB HI v0 b1 c0 m3
     generalize wr.heap.size = bm at HR ⊢
     go_loopg [45] ns.length (fun kq v45 w' => ∃ (own : Nat → Nat) (i : Nat) (keys : List (List UInt8)) (nx : List Int), v45 = .int .i64 (i : Int) ∧ Aside0 (i + kq = ns.length) ∧ Aside0 (MR w w' #[.int .i64 tapes, .int .i64 start, .slice Aa ac.length ca, .slice An ns.length cn] gv own (.slice Ag1 lg.length cg1) lg bm keys (.slice A41 lg.length c41) nx) ∧ Aside0 (roundM lg (ns.drop i) i keys nx = some (D, nxF)) ∧ Aside0 (nx.length = lg.length ∧ keys.length ≤ i ∧ i ≤ 1900000 ∧ ∀ x ∈ nx, 0 ≤ x ∧ x ≤ 1900000))
     case atStart => exact ⟨own1, 0, [], List.replicate lg.length 0, by simp, ⟨by omega⟩, HR, ⟨by simpa using HRd.out⟩, ⟨by simp, by simp, by omega, fun x hx => by rw [List.eq_of_mem_replicate hx]; omega⟩⟩
     case round =>
      clear HR HRd own1; obtain ⟨own, i, keys, nx, rfl, HK, HR, HRd, HNx⟩ := hrel
      cases gk with
      | zero =>
       (have hi : i = ns.length := by have := HK.out; omega); subst hi; have c1 : decide ((ns.length : Int) < (ns.length : Int)) = false := decide_eq_false (by omega); have c2 : decide (ns.length < ns.length) = false := decide_eq_false (by omega); have hD := HRd.out; rw [List.drop_length, roundM] at hD; obtain ⟨rfl, rfl⟩ := Prod.mk.inj (Option.some.inj hD); clear hD HRd HK c1 c2; have v0 : wr.cell? ⟨gv, 0, none⟩ = some (.slice Ag1 lg.length cg1) := (blk_cell HR.out.1.2.2.1.1 0).trans rfl; have f0 := blk_frozen HR.out.1.2.2.1.1 0; have HI2 := am (MR.turn HR.out HGV.out); have HMp := am (HR.out.2.1.1.setCell (show bm ≠ (⟨gv, 0, none⟩ : Addr).block from fun e => by have h1 := HR.out.1.2.2.1.2; have h2 := HR.out.2.1.2; have e' : bm = gv := e; rw [e'] at h2; omega) (.slice A41 lg.length c41)); have hd := idsD_size litS_inj litS_key keys HR.out.2.2.2.1; have HDS := am hd; clear hd; by_cases hdc : keys.length = count
       ·have HG2 := am (show nx = group by have h_ := HM1.out; rw [if_pos hdc] at h_; exact Option.some.inj h_); clear HM1; subst hdc; have hng : nx.length = lg.length := HNx.out.1; have HNG := am hng; obtain ⟨own2, HI3⟩ : ∃ own2, Aside0 (MI w (wr.setCell ⟨gv, 0, none⟩ (.slice A41 lg.length c41)) #[.int .i64 tapes, .int .i64 start, .slice Aa ac.length ca, .slice An ns.length cn] gv own2 (.slice A41 lg.length c41) nx) := ⟨_, HI2⟩; clear HI2 HR hng; have c0 : (0 ≤ (lg.length : Int)) = True := eq_true (by omega)
        go_wp2_with (first | (at_len; refine wpList_len_own _ rfl _ 183 rfl _ _ Tryd.underlying183 _ _ _ _ rfl HMp.out ?_; rw [HDS.out]) | ((with_reducible refine gate_dst (N := 97) rfl ?_); refine Kd.R_make (Kd.int .i64) (w0 := w) w.heap.size 3 rfl (N := 97) rfl 68 _ _ rfl (lg.length : Int) rfl rfl Tryd.underlying68 (.int .i64 0) 8 info3 rfl (by decide) (by omega) 0 (ok := fun k => wr.heap.size ≤ k) (okp := fun _ => False) rfl (fun _ hk => hk.elim) (by simp) (by omega) (by have := HL.out; have := HLG.out; omega) HI3.out.2.2.2.2 HI3.out.2.2.2.2.size ?_; intro v97 w9 ho hb hg_ hnew_; obtain ⟨A97, c97, hv⟩ := Kd.R_slice ho; subst hv; have HO := am ho; have HG := am hg_; have HB := am hb; have b9 := blk_grown HI3.out.2.2.1.1 hg_ (by simp); have v9 : (w9.alloc (.cells #[.slice A97 lg.length c97] 68)).cell? ⟨gv, 0, none⟩ = some (.slice A41 lg.length c41) := (blk_cell (blk_alloc b9 _) 0).trans rfl; clear hg_ hnew_ ho hb b9))
        obtain ⟨own3, hO⟩ := mo_start (n := lg.length) HI3.out (by have h_ := HO.out; simpa using h_) HG.out HB.out; have HO2 := am hO; clear hO HO HG HB HI3 HMp
        generalize hgo : w9.heap.size = go at HO2 ⊢
        generalize w9.alloc _ = W9 at HO2 ⊢
        clear hgo v9 c0 v0 f0; have HOn2 := am (show oneL group 0 (List.replicate lg.length 0) = some one by have h_ := HOn.out; rwa [show group.length = lg.length by rw [← HG2.out]; exact HNG.out] at h_)
        go_loopg [100] lg.length (fun kq v100 w' => ∃ (i : Nat) (ol : List Int), v100 = .int .i64 (i : Int) ∧ Aside0 (i + kq = lg.length) ∧ Aside0 (MO w w' #[.int .i64 tapes, .int .i64 start, .slice Aa ac.length ca, .slice An ns.length cn] gv own3 (.slice A41 lg.length c41) nx go (.slice A97 lg.length c97) ol) ∧ Aside0 (oneL (group.drop i) i ol = some one) ∧ Aside0 (ol.length = lg.length))
        case atStart => exact ⟨0, List.replicate lg.length 0, by simp, ⟨by omega⟩, HO2, ⟨by simpa using HOn2.out⟩, ⟨by simp⟩⟩
        case round =>
         clear HO2 HOn2; obtain ⟨i, ol, rfl, HK, HO2, HOn2, HOL⟩ := hrel; (have hgl : group.length = lg.length := by rw [← HG2.out]; exact HNG.out)
         cases gk with
         | zero =>
          (have hi : i = lg.length := by have := HK.out; omega); subst hi; have c1 : decide ((lg.length : Int) < (lg.length : Int)) = false := decide_eq_false (by omega); have c2 : decide (lg.length < lg.length) = false := decide_eq_false (by omega); have hD := HOn2.out; rw [List.drop_eq_nil_of_le (by omega), oneL] at hD; obtain rfl := Option.some.inj hD; have HGL := am hgl; clear hD HOn2 HK hgl; go_wp2; obtain ⟨p0, q0, egs⟩ := at1_some HGs.out; obtain ⟨gA, cA, hv, hc, hf⟩ := HO2.out.1.get start p0 (by have h_ := HG2.out; rw [h_]; exact q0); simp only [Value.slice.injEq] at hv; obtain ⟨hv1, -, hv2⟩ := hv; subst hv1; subst hv2; (have er : rd nx start = gs := by rw [HG2.out]; exact egs.symm); (have hgsz : w.heap.size + 2 ≤ wr.heap.size := by have := blk_lt HO2.out.1.2.1.1; have h2_ := blk_lt HO2.out.1.2.2.1.1; have e2 := HO2.out.1.2.2.1.2; have e1 := HO2.out.1.2.1.2; omega); have HO3 := am (HO2.out.below (below_drew (Below.refl _ _)))
          have hS : wr.drew.cell? ⟨w.heap.size, 0, none⟩ = some (.int .i64 tapes) ∧ wr.drew.cell? ⟨gv, 0, none⟩ = some (.slice (some ⟨gA, 0, none⟩) lg.length c41) ∧ wr.drew.cell? ⟨w.heap.size, 1, none⟩ = some (.int .i64 start) ∧ wr.drew.cell? ⟨gA, start.toNat, none⟩ = some (.int .i64 gs) := by
           refine ⟨(blk_cell HO3.out.1.1.1 0).trans rfl, (blk_cell HO3.out.1.2.2.1.1 0).trans rfl, (blk_cell HO3.out.1.1.1 1).trans rfl, ?_⟩; rw [← er]; exact hc
          have HSZ := am (show w.heap.size + 2 ≤ wr.drew.heap.size from hgsz); have q1 : (start < (lg.length : Int)) = True := eq_true (by have := HGL.out; omega); have p0' := eq_true p0; clear HO2 hc hf er egs hgsz p0 q0 c1 c2; obtain ⟨mA, vG, vO⟩ := mo_clos HO3.out HA.out HN.out; have HMA := am mA; have HVO := am vO; have HVG := am (show VarAt wr.drew gv group by have h_ := HG2.out; rw [← h_]; exact vG); clear mA vG vO; refine start_ (n := 16) (S := fun w' => w'.cell? ⟨w.heap.size, 0, none⟩ = some (.int .i64 tapes) ∧ w'.cell? ⟨gv, 0, none⟩ = some (.slice (some ⟨gA, 0, none⟩) lg.length c41) ∧ w'.cell? ⟨w.heap.size, 1, none⟩ = some (.int .i64 start) ∧ w'.cell? ⟨gA, start.toNat, none⟩ = some (.int .i64 gs)) (ds := [14]) #[false, false, false, false, false, false, false, false, false, false, false, false, false, false, false, false] (by kernel_rfl) rfl rfl hS (fun hHeld => ?_)
          generalize wr.drew = w3 at HO3 HMA HVO HVG HSZ hS hHeld ⊢
          refine pureA 0 (some 111) (bl 16 1) rfl rfl (h := ?_); refine takeA4 1 (some 112) (bl 16 3) hHeld rfl rfl (h := ?_); refine takeA4 2 (some 113) (bl 16 7) hHeld rfl rfl (h := ?_); refine pureA 3 (some 114) (bl 16 15) rfl rfl (h := ?_); refine takeA4 4 (some 115) (bl 16 31) hHeld rfl rfl (h := ?_); refine pureA 5 (some 116) (bl 16 63) rfl rfl (h := ?_); refine takeA4 6 (some 117) (bl 16 127) hHeld rfl rfl (h := ?_); refine pureA 7 (some 118) (bl 16 255) rfl rfl (h := ?_); refine pureA 8 (some 119) (bl 16 511) rfl rfl (h := ?_); refine join_ (σ := Value × Value × Nat) 2 #[true, true, true, true, true, true, true, true, true, true, true, true, true, true, false, false] (fun s => [(120, .tuple #[.agg #[.int .i64 tapes, .int .i64 0, s.1, s.2.1], .bool true]), (110, .tuple #[.agg #[.int .i64 tapes, .int .i64 0, s.1, s.2.1], .bool true]), (121, .agg #[.int .i64 tapes, .int .i64 0, s.1, s.2.1]), (122, .bool true), (19, .pointer (some ⟨s.2.2, 0, none⟩))]) (fun s w' => Aside0 (MG w w' s.1 s.2.1 s.2.2 as1 rs1)) ?_ ?_; rotate_left
          ·intro hCont; refine two_ (i := 9) (j := 13) (Ni := some 120) (Nj := some 19) #[true, true, true, true, true, true, true, true, true, true, false, false, false, false, false, false] #[true, true, true, true, true, true, true, true, true, false, false, false, false, true, false, false] rfl rfl rfl rfl (by kernel_rfl) (by decide) (by decide) (fun K hK => ?_) (fun K hK => ?_)
           ·refine goes_ Tryd.func198 (by kernel_rfl) rfl #[.int .i64 tapes, .int .i64 gs, .int .i64 0, .func (.func 199) #[] #[.pointer (some ⟨w.heap.size, 0, none⟩), .pointer (some ⟨go, 0, none⟩)], .func (.func 200) #[] #[.pointer (some ⟨gv, 0, none⟩), .pointer (some ⟨w.heap.size, 0, none⟩), .pointer (some ⟨go, 0, none⟩)]] (by rfl) rfl rfl (by (try simp only [List.map_toArray, List.map_cons, List.map_nil]); rfl) ?_; refine (grow_int_calls w3 (merged1_clo HMA.out HVO.out) (merged2_clo HMA.out HVO.out HVG.out) HW.out hW HIn.out HH.out).mono ?_; rintro e w4 ⟨va, vr, rfl, hR, hSn, hb⟩; refine ⟨_, rfl, ?_⟩; refine hK.out _ _ ⟨pw_cell_below hb hHeld.1, pw_cell_below hb hHeld.2.1, pw_cell_below hb hHeld.2.2.1, pw_cell_below hb hHeld.2.2.2⟩ (fun hHeld2 => ?_); clear hK K; refine normA (h := ?_); refine pureA 10 (some 110) (bl 16 2047) rfl rfl (h := ?_); refine pureA 11 (some 121) (bl 16 4095) rfl rfl (h := ?_); refine pureA 12 (some 122) (bl 16 8191) rfl rfl (h := ?_); refine oneA 13 (some 19) (bl 16 16383) rfl rfl (fun K hK => ?_); refine value_ (v := .pointer (some ⟨w4.heap.size, 0, none⟩)) (w1 := w4.alloc (.cells #[.int .i64 0, .int .i64 0, .slice none 0 0, .slice none 0 0] 78)) (by rfl) rfl ?_ ?_
            ·go_simp
            refine hK.out _ _ ⟨pw_cell_below ((Below.refl _ _).alloc (Nat.le_refl _) _) hHeld2.1, pw_cell_below ((Below.refl _ _).alloc (Nat.le_refl _) _) hHeld2.2.1, pw_cell_below ((Below.refl _ _).alloc (Nat.le_refl _) _) hHeld2.2.2.1, pw_cell_below ((Below.refl _ _).alloc (Nat.le_refl _) _) hHeld2.2.2.2⟩ (fun _ => ?_); exact hCont (va, vr, w4.heap.size) _ ⟨mg_call HO3.out.1 hR hSn hb HSZ.out⟩
           ·refine value_ (v := .pointer (some ⟨w3.heap.size, 0, none⟩)) (w1 := w3.alloc (.cells #[.int .i64 0, .int .i64 0, .slice none 0 0, .slice none 0 0] 78)) (by rfl) rfl ?_ ?_
            ·go_simp
            have hba : Below w3.heap.size w3 (w3.alloc (.cells #[.int .i64 0, .int .i64 0, .slice none 0 0, .slice none 0 0] 78)) := (Below.refl _ _).alloc (Nat.le_refl _) _; refine hK.out _ _ ⟨pw_cell_below hba hHeld.1, pw_cell_below hba hHeld.2.1, pw_cell_below hba hHeld.2.2.1, pw_cell_below hba hHeld.2.2.2⟩ (fun hHeld2 => ?_); clear hK K; refine normA (h := ?_); refine oneA 9 (some 120) (bl 16 9215) rfl rfl (fun K hK => ?_); refine goes_ Tryd.func198 (by kernel_rfl) rfl #[.int .i64 tapes, .int .i64 gs, .int .i64 0, .func (.func 199) #[] #[.pointer (some ⟨w.heap.size, 0, none⟩), .pointer (some ⟨go, 0, none⟩)], .func (.func 200) #[] #[.pointer (some ⟨gv, 0, none⟩), .pointer (some ⟨w.heap.size, 0, none⟩), .pointer (some ⟨go, 0, none⟩)]] (by rfl) rfl rfl (by (try simp only [List.map_toArray, List.map_cons, List.map_nil]); rfl) ?_; refine (grow_int_calls (w3.alloc (.cells #[.int .i64 0, .int .i64 0, .slice none 0 0, .slice none 0 0] 78)) (merged1_clo (HMA.out.below hba) (HVO.out.below hba)) (merged2_clo (HMA.out.below hba) (HVO.out.below hba) (HVG.out.below hba)) HW.out hW HIn.out HH.out).mono ?_; rintro e w4 ⟨va, vr, rfl, hR, hSn, hb⟩; refine ⟨_, rfl, ?_⟩; refine hK.out _ _ ⟨pw_cell_below hb hHeld2.1, pw_cell_below hb hHeld2.2.1, pw_cell_below hb hHeld2.2.2.1, pw_cell_below hb hHeld2.2.2.2⟩ (fun _ => ?_); clear hK K; refine normA (h := ?_); refine pureA 10 (some 110) (bl 16 10239) rfl rfl (h := ?_); refine pureA 11 (some 121) (bl 16 12287) rfl rfl (h := ?_); refine pureA 12 (some 122) (bl 16 16383) rfl rfl (h := ?_); exact hCont (va, vr, w3.heap.size) _ ⟨mg_call2 HO3.out.1 (by simpa using hR) (by simpa using hSn) hb HSZ.out⟩
          ·rintro ⟨va, vr, b⟩ w5 HG5; obtain ⟨A5, c5, hva⟩ := Kd.R_slice HG5.out.1; obtain ⟨A6, c6, hvr⟩ := Kd.S_slice HG5.out.2.1; simp only at hva hvr; subst hva; subst hvr; obtain ⟨g0, g1, g2, g3⟩ := bc4 HG5.out.2.2.1; obtain ⟨f0, f1, f2, f3⟩ := bf4 HG5.out.2.2.1; have HE := am (mg_end HG5.out (.int .i64 tapes) (.int .i64 0)); (have r5 : (set4 w5 b (.int .i64 tapes) (.int .i64 0) (.slice A5 as1.length c5) (.slice A6 rs1.length c6)).heap[w.heap.size + 1]? = some (.cells #[.int .i64 0, .int .i64 0, .slice none 0 0, .slice none 0 0] 78 (0, 0)) := by rw [set4_other (by have := HG5.out.2.2.2.1; simp only at this; omega)]; exact HG5.out.2.2.2.2.1)
           have b5 : (set4 w5 b (.int .i64 tapes) (.int .i64 0) (.slice A5 as1.length c5) (.slice A6 rs1.length c6)).heap[b]? = some (.cells #[.int .i64 tapes, .int .i64 0, .slice A5 as1.length c5, .slice A6 rs1.length c6] 78 (0, 0)) := by
            have h_ := blk_set (blk_set (blk_set (blk_set HG5.out.2.2.1 0 (.int .i64 tapes)) 1 (.int .i64 0)) 2 (.slice A5 as1.length c5)) 3 (.slice A6 rs1.length c6)
            simpa [set4] using h_
           have HR5 := am r5; have HB5 := am b5; have HBW := am HG5.out.2.2.2.1; clear r5 b5 HG5; refine norm_ (a' := ?_) ?_ ?_; rotate_left
           ·show putAll _ _ = _; simp only [putAll, Act.put, List.setIfInBounds_toArray, List.set_cons_zero, List.set_cons_succ]; rfl
           refine last_ (i := 14) (N := none) (bl 16 32767) rfl rfl (by kernel_rfl) (by decide) (fun K hK => ?_); refine skip_ (w1 := set4 w5 b (.int .i64 tapes) (.int .i64 0) (.slice A5 as1.length c5) (.slice A6 rs1.length c6)) (by rfl) rfl ?_ ?_
           ·go_simp; rfl
           refine hK.out _ _ ?_; clear hK K g0 g1 g2 g3 f0 f1 f2 f3
           generalize set4 w5 b _ _ _ _ = w6 at HE HR5 HB5 ⊢
           refine pureA 15 (some 20) (bl 16 65535) rfl rfl (h := ?_); refine done_ (by kernel_rfl) ?_; obtain ⟨k0, k1, k2, k3⟩ := bc4 HB5.out; obtain ⟨n0, n1, n2, n3⟩ := bc4 HR5.out; obtain ⟨f0, f1, f2, f3⟩ := bf4 HR5.out; go_wp2; refine bodyPost_ret (v := .agg #[.int .i64 tapes, .int .i64 0, .slice A5 as1.length c5, .slice A6 rs1.length c6]) (by simp [results, Tryd.results171, go_sem, n0, n1, n2, n3]) rfl ⟨_, _, rfl, HE.out⟩
         | succ k4 =>
          (have hi : i < group.length := by have := HK.out; omega); have c1 : decide ((i : Int) < (lg.length : Int)) = true := decide_eq_true (by omega); have c2 : decide (i < lg.length) = true := decide_eq_true (by omega); have hD := HOn2.out; rw [List.drop_eq_getElem_cons hi, oneL] at hD; by_cases hgb : 0 ≤ group[i] ∧ group[i] < (ol.length : Int)
          ·rw [if_pos hgb] at hD; obtain ⟨p0, q0⟩ := hgb; (have hi2 : i < 1900000 := by have := HL.out; have := HLG.out; omega); obtain ⟨g1, cg1_, hv, hc, hf⟩ := HO2.out.1.get (i : Int) (by omega) (by have := HNG.out; omega); simp only [Value.slice.injEq] at hv; obtain ⟨hv1, -, hv2⟩ := hv; subst hv1; subst hv2; simp only [Int.toNat_natCast] at hc hf
           have er : rd nx (i : Int) = group[i] := by
            have e := HG2.out; subst e; simp [rd, List.getD_eq_getElem?_getD, List.getElem?_eq_getElem hi]
           rw [er] at hc; have HD1 := am hD; generalize group[i] = q at hc p0 q0 HD1; obtain ⟨g2, cg2_, hv, hc2, hf2⟩ := HO2.out.getO q p0 q0; simp only [Value.slice.injEq] at hv; obtain ⟨hv1, -, hv2⟩ := hv; subst hv1; subst hv2; have v0 : wr.cell? ⟨go, 0, none⟩ = some (.slice (some ⟨g2, 0, none⟩) lg.length c97) := (blk_cell HO2.out.2.1.1 0).trans rfl; have q1 : (q < (lg.length : Int)) = True := eq_true (by have := HOL.out; omega); replace p0 := eq_true p0; have HGL := am hgl; have p1 : (i < lg.length) = True := eq_true (by omega); clear hD er hgl q0; go_wp2; go_roundg k4
           case measure => omega
           case rel => exact ⟨i + 1, ol.set q.toNat (i : Int), by go_num, ⟨by have := HK.out; omega⟩, ⟨HO2.out.set q (i : Int)⟩, HD1, ⟨by simp [HOL.out]⟩⟩
          ·rw [if_neg hgb] at hD; cases hD
       ·have HM2 := am (show mergeL ns k1 keys.length nx = some group by have h_ := HM1.out; rw [if_neg hdc] at h_; exact h_); clear HM1; (have hdc1 : ((keys.length : Int) == (count : Int)) = false := by simpa using fun h : (keys.length : Int) = count => hdc (by omega)); (have hdc2 : decide ((keys.length : Int) = (count : Int)) = false := by simpa using fun h : (keys.length : Int) = count => hdc (by omega)); have HDC := am hdc; clear hdc
        go_wp2_with (first | (at_len; refine wpList_len_own _ rfl _ 183 rfl _ _ Tryd.underlying183 _ _ _ _ rfl HMp.out ?_; rw [HDS.out]))
        go_roundg k1
        case measure => omega
        case rel => exact ⟨_, _, nx, keys.length, rfl, HI2, HM2, ⟨by rw [HNx.out.1, HLB.out.1], by have := HNx.out; omega, HNx.out.2.2.2⟩⟩
      | succ k2 =>
       (have hi : i < ns.length := by have := HK.out; omega); have c1 : decide ((i : Int) < (ns.length : Int)) = true := decide_eq_true (by omega); have c2 : decide (i < ns.length) = true := decide_eq_true (by omega); have hD := HRd.out; rw [List.drop_eq_getElem_cons hi, roundM] at hD; obtain ⟨gi, hgi, hD1⟩ := oB hD; clear hD; obtain ⟨key, hkey, hD⟩ := oB hD1; clear hD1; obtain ⟨p0, q0, egi⟩ := at1_some hgi; obtain ⟨ad, A2, c3, e2, hx2, hl2, hC3⟩ := at_rows (Kd.C_below HN.out HR.out.1.2.2.2.2) (i : Int) (by omega) (by omega); subst e2; (have er : rdR ns (i : Int) = ns[i] := by simp [rdR, List.getD_eq_getElem?_getD, List.getElem?_eq_getElem hi]); rw [er] at hx2 hl2 hC3; obtain ⟨g, cg, hv, hc, hf⟩ := HR.out.1.get (i : Int) p0 q0; injection hv with hv1 hv2 hv3; subst hv1; subst hv3; simp only [Int.toNat_natCast] at hx2 hc hf; rw [show rd lg (i : Int) = gi from egi.symm] at hc; have v0 : wr.cell? ⟨gv, 0, none⟩ = some (.slice (some ⟨g, 0, none⟩) lg.length cg1) := (blk_cell HR.out.1.2.2.1.1 0).trans rfl; obtain ⟨-, -, -, m3⟩ := bc4 HR.out.1.1.1; have hgb : 0 ≤ gi ∧ gi ≤ 1900000 := HLB.out.2.2 gi (by rw [egi]; exact rd_mem_ (by omega)); have HKey := am hkey; have HD := am hD; have HGi := am hgb; have HC3 := am hC3; have HRl := am (HRW.out ns[i] (List.getElem_mem hi)); (have hi2 : i < 1900000 := by have := HNL.out; have := HL.out; omega); have p1 : (i < lg.length) = True := eq_true (by omega); clear hkey hD hgb hgi egi er p0 q0 hC3 HRd hl2; generalize ns[i] = row at hx2 HKey HC3 HRl
       go_wp2_with (first | (go_at_call 197; refine (itoa_on HT.out gi (by have := HGi.out; omega) (by have := HGi.out; omega) HR.out.1.2.2.2.2).mono ?_; rintro e w6 ⟨rfl, hb6⟩; have HR6 := am (HR.out.below hb6); have HC6 := am (Kd.C_below HC3.out hb6); clear HR hb6 HC3))
       have hsz6 := Lib.itoa_length_le gi (by have := HGi.out; omega) (by have := HGi.out; omega); have HS6 := am (show (⟨(Lib.itoa gi).toArray⟩ : ByteArray).size ≤ 22 * (0 + 1) by show (Lib.itoa gi).toArray.size ≤ _; simp; omega); clear hsz6 v0 m3 hx2 hc hf c1 c2
       go_loopg [11, 57] row.length (fun kq v11 v57 w' => ∃ (j : Nat) (s : ByteArray), v57 = .int .i64 (j : Int) ∧ v11 = .string s ∧ Aside0 (j + kq = row.length) ∧ Aside0 (Below w6.heap.size w6 w') ∧ Aside0 (keyL lg (row.drop j) s.data.toList = some key) ∧ Aside0 (s.size ≤ 22 * (j + 1)))
       case atStart => exact ⟨0, _, by simp, rfl, ⟨by omega⟩, ⟨Below.refl _ _⟩, ⟨by have := HKey.out; simpa using this⟩, HS6⟩
       case round =>
        clear HS6 HKey; obtain ⟨j, sj, rfl, rfl, HKj, HB7, HKey, HSj⟩ := hrel; have HR7 := am (HR6.out.below HB7.out)
        cases gk with
        | zero =>
         (have hj : j = row.length := by have := HKj.out; omega); subst hj; have c1 : decide ((row.length : Int) < (row.length : Int)) = false := decide_eq_false (by omega); have c2 : decide (row.length < row.length) = false := decide_eq_false (by omega); have hkk := HKey.out; rw [List.drop_length, keyL] at hkk; have hkey : sj.data.toList = key := Option.some.inj hkk; have HKe := am hkey; clear hkk hkey HKey; (have hks : sj.size ≤ 22 * 1001 := by have h1_ := HSj.out; have h2_ := HRl.out; omega); have HKS := am hks; clear hks; have hnl_ : nx.length = lg.length := HNx.out.1; obtain ⟨gN, cN, hvN, hcN, hfN⟩ := HR7.out.getN (i : Int) (by omega) (by have := of_eq_true p1; omega); simp only [Value.slice.injEq] at hvN; obtain ⟨hvN1, -, hvN2⟩ := hvN; subst hvN1; subst hvN2; simp only [Int.toNat_natCast] at hcN hfN; have HNL_ := am hnl_; clear hnl_; by_cases hm : key ∈ keys
         ·have hD := HD.out; rw [if_pos hm] at hD; have HD1 := am hD; have HMm := am hm; clear hD HD hm
          go_wp2_with (first | (at_lookup; refine wpList_key_in _ rfl _ _ 183 rfl (Maps.string_keyed Tryd.underlying9) Tryd.underlying183 Tryd.underlying3 (zero_int _) rfl HR7.out.2.1.1 HR7.out.2.2.2.1 _ key rfl (key_of Tryd.underlying9 HKe.out HKS.out) HMm.out ?_))
          go_roundg k2
          case measure => omega
          case rel =>
           have hix := idxG_lt HMm.out; have hkl := HNx.out.2.1; exact ⟨own, i + 1, keys, nx.set i (idxG keys key), by go_num, ⟨by have := HK.out; omega⟩, ⟨by have h_ := HR7.out.set (i : Int) (idxG keys key); simpa using h_⟩, HD1, ⟨by simp [HNx.out.1], by omega, by omega, set_bounds HNx.out.2.2.2 (by omega) (by omega)⟩⟩
         ·have hD := HD.out; rw [if_neg hm] at hD; have HD1 := am hD; have HMm := am hm; clear hD HD hm hcN hfN; have hkl := HNx.out.2.1
          go_wp2_with (first | (at_lookup; refine wpList_key_out _ rfl _ _ 183 rfl (Maps.string_keyed Tryd.underlying9) Tryd.underlying183 Tryd.underlying3 (zero_int _) rfl HR7.out.2.1.1 HR7.out.2.2.2.1 _ key rfl (key_of Tryd.underlying9 HKe.out HKS.out) HMm.out ?_) | (at_len; refine wpList_len_own _ rfl _ 183 rfl _ _ Tryd.underlying183 _ _ _ _ rfl HR7.out.2.1.1 ?_; rw [idsD_size litS_inj litS_key keys HR7.out.2.2.2.1]) | (at_mapUpdate; refine wpList_ids_put _ rfl _ _ _ 183 rfl (Maps.string_keyed Tryd.underlying9) Tryd.underlying183 Tryd.underlying3 rfl HR7.out.2.1.1 ?uM _ key rfl (key_of Tryd.underlying9 HKe.out HKS.out) rfl ?uL ?_; (case uM => unfold maxLen; omega); (case uL => omega); intro w3 hown3 hg3; have HR8 := am (MR.put HR7.out HMm.out hown3 hg3); clear hown3 hg3 HR7; obtain ⟨gN2, cN2, hvN, hcN, hfN⟩ := HR8.out.getN (i : Int) (by omega) (by have := of_eq_true p1; have := HNL_.out; omega); simp only [Value.slice.injEq, Option.some.injEq, Addr.mk.injEq, and_true, true_and] at hvN; obtain ⟨hvN1, -, hvN2⟩ := hvN; subst hvN1; subst hvN2; simp only [Int.toNat_natCast] at hcN hfN))
          go_roundg k2
          case measure => omega
          case rel =>
           exact ⟨_, i + 1, keys ++ [key], nx.set i (keys.length : Int), by go_num, ⟨by have := HK.out; omega⟩, ⟨by have h_ := HR8.out.set (i : Int) (keys.length : Int); simpa using h_⟩, HD1, ⟨by simp [HNx.out.1], by simp; omega, by omega, set_bounds HNx.out.2.2.2 (by omega) (by omega)⟩⟩
        | succ k3 =>
         (have hj : j < row.length := by have := HKj.out; omega); have c1 : decide ((j : Int) < (row.length : Int)) = true := decide_eq_true (by omega); have c2 : decide (j < row.length) = true := decide_eq_true (by omega); have hkk := HKey.out; rw [List.drop_eq_getElem_cons hj, keyL] at hkk; obtain ⟨gq, hgq, hk1⟩ := oB hkk; clear hkk HKey; have HK1 := am hk1; obtain ⟨p0, q0, egq⟩ := at1_some hgq; obtain ⟨ad2, e3, hx3⟩ := Kd.at_int (Kd.C_below HC6.out HB7.out) (j : Int) (by omega) (by omega); subst e3; (have er : rd row (j : Int) = row[j] := by simp [rd, List.getD_eq_getElem?_getD, List.getElem?_eq_getElem hj]); rw [er] at hx3; generalize row[j] = q at hx3 HK1 hgq p0 q0 egq; obtain ⟨g2, cg2, hv, hc, hf⟩ := HR7.out.1.get q p0 q0; simp only [Value.slice.injEq, Option.some.injEq, Addr.mk.injEq, and_true, true_and] at hv; obtain ⟨hv1, hv3⟩ := hv; subst hv1; subst hv3; simp only [Int.toNat_natCast] at hx3; rw [show rd lg q = gq from egq.symm] at hc; have v0 : wr.cell? ⟨gv, 0, none⟩ = some (.slice (some ⟨g, 0, none⟩) lg.length cg1) := (blk_cell HR7.out.1.2.2.1.1 0).trans rfl; have hgb : 0 ≤ gq ∧ gq ≤ 1900000 := HLB.out.2.2 gq (by rw [egq]; exact rd_mem_i p0 q0); have HGq := am hgb; (have hj2 : j < 1000 := by have := HRl.out; omega); replace p0 := eq_true p0; replace q0 := eq_true q0; have hil := Lib.itoa_length_le gq (by omega) (by omega); have hsj := HSj.out; have s1 : (9223372036854775807 < 1 + (Lib.itoa gq).length) = False := eq_false (by omega); have s2 : (9223372036854775807 < sj.size + (1 + (Lib.itoa gq).length)) = False := eq_false (by omega); have HIL := am hil; clear hgb hgq egq er hk1 hf hil hsj
         go_wp2_with (first | (go_at_call 197; refine (itoa_on HT.out gq (by have := HGq.out; omega) (by have := HGq.out; omega) HR7.out.1.2.2.2.2).mono ?_; rintro e w8 ⟨rfl, hb8⟩; have HB8 := am (below_then HB7.out HB7.out.size hb8); clear hb8))
         go_roundg k3
         case measure => omega
         case rel => exact ⟨j + 1, sj ++ (⟨#[44]⟩ ++ ⟨(Lib.itoa gq).toArray⟩), by go_num, rfl, ⟨by have := HKj.out; omega⟩, HB8, ⟨by have h_ := HK1.out; simpa using h_⟩, ⟨key_size HSj.out HIL.out⟩⟩
  | succ k1 =>
   (have hi : i < ac.length := by have := HK.out; omega); have c1 : decide ((i : Int) < (ac.length : Int)) = true := decide_eq_true (by omega); have c2 : decide (i < ac.length) = true := decide_eq_true (by omega); (have hlg : lg.length = ac.length := by rw [HE.out]; simp [bitL]; omega); (have hi2 : i < 1900000 := by have := HL.out; omega); obtain ⟨ad, e1, hx⟩ := Kd.at_bool (Kd.C_below HA.out HI.out.2.2.2.2) (i : Int) (by omega) (by omega); subst e1; obtain ⟨g, cg, rfl, hc, hf⟩ := HI.out.get (i : Int) (by omega) (by omega); have v0 : wr.cell? ⟨gv, 0, none⟩ = some (.slice (some ⟨g, 0, none⟩) lg.length cg) := (blk_cell HI.out.2.2.1.1 0).trans rfl; simp only [Int.toNat_natCast] at hx hc hf; have hs := bit_step hi lg HE.out; have HS := am hs; have HLg := am hlg; have hl1 : (i < lg.length) = True := eq_true (by omega); clear hs hlg
   cases hb : rdOf false ac (i : Int) with
   | true =>
    rw [hb] at hx HS; clear hb; go_wp2; go_roundg k1
    case measure => omega
    case rel => exact ⟨own, i + 1, _, lg.set i 1, by go_num, ⟨by have := HK.out; omega⟩, ⟨by have h_ := HI.out.set (i : Int) 1; simpa using h_⟩, ⟨by have h_ := HS.out; simpa using h_⟩⟩
   | false =>
    rw [hb] at hx HS; clear hb; go_wp2; go_roundg k1
    case measure => omega
    case rel => exact ⟨own, i + 1, _, lg, by go_num, ⟨by have := HK.out; omega⟩, ⟨HI.out⟩, ⟨by have h_ := HS.out; simpa using h_⟩⟩
def trowF (cl : List Int) : List Int → List Int → List Int → List Int → Option (List Int × List Int × List Int)
 | [], nu, l, row => some (nu, l, row)
 | t :: ts, nu, l, row => (at1 0 cl t).bind fun c => (at1 0 nu c).bind fun x => if x < 0 then (if l.length < 1900000 then trowF cl ts (nu.set c.toNat (l.length : Int)) (l ++ [t]) (row ++ [(l.length : Int)]) else none) else trowF cl ts nu l (row ++ [x])
def tmainF (cl : List Int) (ac : List Bool) (ns : List (List Int)) : Nat → List Int → List Int → List Bool → List (List Int) → Option (List Bool × List (List Int))
 | 0, _, _, _, _ => none
 | f + 1, nu, l, bs, rs => match l[bs.length]? with
  | none => some (bs, rs)
  | some s => (at1 [] ns s).bind fun rw => (at1 false ac s).bind fun a => (trowF cl rw nu l []).bind fun p => tmainF cl ac ns f p.1 p.2.1 (bs ++ [a]) (rs ++ [p.2.2])
/-- The classes, made finer until their number stays. -/
def tclassF (k : Nat) (t : Int) (ac : List Bool) (ns : List (List Int)) : Nat → Int → List Int → Option (List Int × Int)
 | 0, _, _ => none
 | f + 1, count, cl => (spec_l01Finer.f k t 0 ac ns cl).bind fun p => if p.2.2.1 = t ∧ p.2.2.2 = 0 then (if p.2.1 = count then some (p.1, count) else tclassF k t ac ns f p.2.1 p.1) else none
def tidiedF (k f : Nat) (t : Int) (ac : List Bool) (ns : List (List Int)) : Option (List Bool × List (List Int)) :=
 (tclassF k t ac ns f 0 (bitL ac)).bind fun p => if 0 ≤ p.2 ∧ p.2 ≤ 1900000 then (at1 0 p.1 0).bind fun c => if 0 ≤ c ∧ c < p.2 then tmainF p.1 ac ns f ((List.replicate p.2.toNat (-1)).set c.toNat 0) [0] [] [] else none else none
theorem is_far {w0 W : World} {g : Nat} {t s : Int} {ac : List Bool} {ns : List (List Int)} (h : IsS38 w0 W g t s ac ns) {p : Addr} (hp : g ≠ p.block) (u : Value) : IsS38 w0 (W.setCell p u) g t s ac ns := by
 obtain ⟨A2, c2, A3, c3, hb, hr⟩ := h; exact ⟨A2, c2, A3, c3, blk_far hb hp u, hr⟩
theorem rdOf_mem {α : Type} {d : α} {l : List α} {k : Int} (h0 : 0 ≤ k) (h : k < (l.length : Int)) : rdOf d l k ∈ l := by
 (have : k.toNat < l.length := by omega); simp only [rdOf, List.getD_eq_getElem?_getD, List.getElem?_eq_getElem this, Option.getD_some]; exact List.getElem_mem this
theorem tidied_calls {f k : Nat} {tapes start : Int} {ac0 : List Bool} {ns0 : List (List Int)} {ac : List Bool} {ns : List (List Int)} {r1 r2 r5 r6 : Int} {bs1 : List Bool} {rs1 : List (List Int)} (w : World) (g : Nat) (Aa : Option Addr) (ca : Nat) (An : Option Addr) (cn : Nat)
  (hb : w.heap[g]? = some (.cells #[.int .i64 tapes, .int .i64 start, .slice Aa ac0.length ca, .slice An ns0.length cn] 38 (0, 0))) (hA : Kd.C Kd.bool w Aa ac0.length ac0) (hN : Kd.C (Kd.slice 2 (Kd.int .i64)) w An ns0.length ns0)
  (hr : spec_l01Right.f k tapes start ac0 ns0 = some (r1, r2, ac, ns, r5, r6)) (hac : ac.length ≤ 1900000) (hrws : ∀ r_ ∈ ns, r_.length ≤ 1000) (h : tidiedF k f tapes ac ns = some (bs1, rs1)) :
  Calls Tryd.prog 66 #[.pointer (some ⟨g, 0, none⟩)] w (RightPost w tapes bs1 rs1) := by
 have HG := am hb; have HA := am hA; have HN := am hN; have HR := am hr; have HAC := am hac; have HRws := am hrws; obtain ⟨⟨cl, count⟩, hcl, h1⟩ := oB h; clear h
 have hcn : 0 ≤ count ∧ count ≤ 1900000 := by
  by_cases e : 0 ≤ count ∧ count ≤ 1900000
  ·exact e
  ·rw [if_neg e] at h1; cases h1
 rw [if_pos hcn] at h1; obtain ⟨N, rfl⟩ : ∃ N : Nat, count = (N : Int) := ⟨count.toNat, by omega⟩; obtain ⟨c, hc, h2⟩ := oB h1; clear h1
 have hcc : 0 ≤ c ∧ c < (N : Int) := by
  by_cases e : 0 ≤ c ∧ c < (N : Int)
  ·exact e
  ·rw [if_neg e] at h2; cases h2
 rw [if_pos hcc] at h2; have HCl := am hcl; have HCn := am hcn; have HC := am hc; have HCc := am hcc; have HM := am h2; clear hb hA hN hr hac hrws hcl hcn hc hcc h2; have hb1 : Below w.heap.size w (w.alloc (.cells #[.int .i64 0, .int .i64 0, .slice none 0 0, .slice none 0 0] 38)) := (Below.refl w.heap.size w).alloc (Nat.le_refl _) _; have hcall := (spec_l01Right.same k g tapes start ac0 ns0 Aa ca An cn r1 r2 ac ns r5 r6 _ (blk_below HG.out hb1) (Kd.C_below HA.out hb1) (Kd.C_below HN.out hb1) HR.out).1; have HCall := am hcall; have HZ := am (show (w.alloc (.cells #[.int .i64 0, .int .i64 0, .slice none 0 0, .slice none 0 0] 38)).heap[w.heap.size]? = some (.cells #[.int .i64 0, .int .i64 0, .slice none 0 0, .slice none 0 0] 38 (0, 0)) from blk_new w _); have HB1 := am hb1; clear hb1 hcall; go_enter Tryd.func66, Tryd.ntmps66
 go_wp2_with (fail)
 generalize w.alloc _ = wA at HCall HZ HB1 ⊢
 (with_reducible refine HCall.out.mono ?_); rintro e w3 ⟨va, vr, rfl, hR, hS, hb3⟩; obtain ⟨A2, c2, hv2⟩ := Kd.R_slice hR; subst hv2; obtain ⟨A3, c3, hv3⟩ := Kd.S_slice hS; subst hv3; have HC2 := am (Kd.R_reads' hR).2.2; have HC3 := am (Kd.S_reads' hS).2.2; have HB3 := am (below_then HB1.out HB1.out.size hb3); have HZ3 := am (blk_below HZ.out hb3); clear HCall HZ HB1 hR hS hb3; have m2 : (w3.alloc (.cells #[.int .i64 tapes, .int .i64 0, .slice A2 ac.length c2, .slice A3 ns.length c3] 38)).cell? ⟨w3.heap.size, 2, none⟩ = some (.slice A2 ac.length c2) := (blk_cell (blk_new w3 _) 2).trans rfl; have hN8 := am (show (ac.length : Int).toNat * 8 ≤ 281474976710656 by have := HAC.out; omega); have c0 : (0 ≤ (ac.length : Int)) = True := eq_true (by omega); have HIS := am (show IsS38 w3 (w3.alloc (.cells #[.int .i64 tapes, .int .i64 0, .slice A2 ac.length c2, .slice A3 ns.length c3] 38)) w3.heap.size tapes 0 ac ns from ⟨A2, c2, A3, c3, blk_new w3 _, Nat.le_refl _, HC2.out, HC3.out⟩); have HBA := am ((Below.refl w3.heap.size w3).alloc (Nat.le_refl _) (.cells #[.int .i64 tapes, .int .i64 0, .slice A2 ac.length c2, .slice A3 ns.length c3] 38))
 go_wp2_with (first | ((with_reducible refine gate_dst (N := 22) rfl ?_); refine Kd.R_make (Kd.int .i64) (w0 := w3) w3.heap.size 2 rfl (N := 22) rfl 25 _ _ rfl (ac.length : Int) rfl rfl Tryd.underlying25 (.int .i64 0) 8 info2 rfl (by decide) (by decide) 0 (ok := fun k => w3.heap.size + 1 ≤ k) (okp := fun _ => False) rfl (fun _ hk => hk.elim) (by simp) (by omega) hN8.out HBA.out HBA.out.size ?_; intro v22 w4 ho hb hg_ hnew_; obtain ⟨A22, c22, hv22⟩ := Kd.R_slice ho; subst hv22; have HO := am ho; have HIS4 := am (HIS.out.grown hg_ (by simp)); have HB4 := am hb; clear hg_ hnew_ ho hb))
 have HO4 := am (show (Kd.int .i64).R 2 w4 w3.heap.size (fun k_ => k_ ≠ w3.heap.size) (.slice A22 ac.length c22) (List.replicate ac.length 0) by have h_ := HO.out; simp only [List.length_replicate, Int.toNat_natCast] at h_; exact Kd.R_mono h_ (fun k_ hk => by have hk' : w3.heap.size + 1 ≤ k_ := hk; omega)); have HXB := am (show w3.heap.size ≤ w3.heap.size from Nat.le_refl _); clear HO HIS HBA m2 hN8 c0
 generalize hxb : w3.heap.size = xb at HO4 HIS4 HXB ⊢
 go_loopg [5] ac.length (fun kq v5 w' => ∃ (i : Nat) (cl : List Int), v5 = .int .i64 (i : Int) ∧ Aside0 (i + kq = ac.length) ∧ Aside0 (Below w3.heap.size w3 w') ∧ Aside0 (IsS38 w3 w' xb tapes 0 ac ns) ∧ Aside0 ((Kd.int .i64).R 2 w' xb (fun k_ => k_ ≠ xb) (.slice A22 ac.length c22) cl) ∧ Aside0 (cl = bitL (ac.take i) ++ List.replicate (ac.length - i) 0))
 case atStart => exact ⟨0, _, rfl, ⟨by omega⟩, HB4, HIS4, HO4, ⟨by simp [bitL]⟩⟩
 case round =>
  clear HB4 HIS4 HO4; obtain ⟨i, cl0, rfl, HK, HB, HIS, HO, HE⟩ := hrel; have HIS0 := HIS.out; obtain ⟨B2, d2, B3, d3, hbx, hgx, hD2, hD3⟩ := HIS0; obtain ⟨-, -, m2, -⟩ := bc4 hbx
  cases gk with
  | zero =>
   (have hi : i = ac.length := by have := HK.out; omega); subst hi; have c1 : decide ((ac.length : Int) < (ac.length : Int)) = false := decide_eq_false (by omega); have c2 : decide (ac.length < ac.length) = false := decide_eq_false (by omega); (obtain rfl : cl0 = bitL ac := by have := HE.out; simpa using this); clear HE HK hbx hgx hD2 hD3; go_wp2; clear m2 c1 c2
   go_loopg [4, 6] f (fun kq v4 v6 w' => ∃ (cl0 : List Int) (count0 : Int), v6 = .int .i64 count0 ∧ Aside0 (Below w3.heap.size w3 w') ∧ Aside0 (IsS38 w3 w' xb tapes 0 ac ns) ∧ Aside0 ((Kd.int .i64).R 2 w' xb (fun k_ => k_ ≠ xb) v4 cl0) ∧ Aside0 (tclassF k tapes ac ns kq count0 cl0 = some (cl, (N : Int))))
   case atStart => exact ⟨bitL ac, 0, rfl, HB, HIS, HO, HCl⟩
   case round =>
    clear HB HIS HO HCl; obtain ⟨cl0, count0, rfl, HB, HIS, HO, HCl⟩ := hrel
    cases gk with
    | zero => exact absurd HCl.out (by simp [tclassF])
    | succ k1 =>
     obtain ⟨⟨q1, q2, q3, q4⟩, hfin, h3⟩ := oB HCl.out
     have hq : q3 = tapes ∧ q4 = 0 := by
      by_cases e : q3 = tapes ∧ q4 = 0
      ·exact e
      ·rw [if_neg e] at h3; cases h3
     rw [if_pos hq] at h3; obtain ⟨hq1, hq2⟩ := hq; replace hq1 := hq1.symm; subst hq1; subst hq2; obtain ⟨A4, c4, hv4⟩ := Kd.R_slice HO.out; subst hv4; have HF := am hfin; have H3 := am h3; clear hfin h3 HCl; have hrd := Kd.R_reads' HO.out; have HRD := am hrd; have HNe := am (show ∀ ad, A4 = some ad → 0 < cl0.length → ad.block ≠ xb from fun ad e_ _ => by subst e_; exact HO.out.1 ad.block rfl); have HXl := am (show xb < wr.heap.size by obtain ⟨B2, d2, B3, d3, hbx, _⟩ := HIS.out; exact blk_lt hbx); clear hrd
     go_wp2_with (fail)
     (with_reducible refine (spec_l01Finer.calls k xb tapes 0 ac ns A4 c4 cl0 q1 q2 tapes 0 w3 wr HIS.out HB.out HRD.out.2.2 HRD.out.2.1 HNe.out HF.out).mono ?_); rintro e w5 ⟨v0, rfl, hR5, hIS5, hB5, hK5⟩; have HO5 := am (show (Kd.int .i64).R 2 w5 xb (fun k_ => k_ ≠ xb) v0 q1 from Kd.R_lower (Kd.R_mono (Kd.R_bound hR5) (fun k_ hk => by have := HXl.out; have := hk.2.1; omega)) (Nat.le_of_lt HXl.out)); have HIS5 := am hIS5; have HB5 := am hB5; obtain ⟨A5, c5, hv5⟩ := Kd.R_slice hR5; subst hv5; clear hR5 hIS5 hB5 hK5 HO HRD HNe HXl HIS HB HF; by_cases hqc : q2 = count0
     ·have h4 := H3.out; rw [if_pos hqc] at h4; obtain ⟨e1, e2⟩ := Prod.mk.inj (Option.some.inj h4); subst hqc; subst e1; subst e2; (have d1 : ((N : Int) == (N : Int)) = true := by simp); clear H3 h4; obtain ⟨B2, d2, B3, d3, hbx, hgx, hD2, hD3⟩ := HIS5.out; have HX := am hbx; have HD2 := am (Kd.C_below hD2 HB5.out); have HD3 := am (Kd.C_below hD3 HB5.out); have HCC := am (Kd.R_reads' HO5.out).2.2; have HBw := am (below_then HB3.out HB3.out.size HB5.out); have HZ5 := am (blk_below HZ3.out HB5.out); have HZl := am (show w.heap.size < w3.heap.size from blk_lt HZ3.out); have HW35 := am HB5.out.size; clear hbx hgx hD2 hD3 HIS5 HO5 HB5; have hNN := HCn.out; have hN8 := am (show (N : Int).toNat * 8 ≤ 281474976710656 by omega); have c0 : (0 ≤ (N : Int)) = True := eq_true (by omega)
      go_wp2_with (first | ((with_reducible refine gate_dst (N := 49) rfl ?_); refine Kd.R_make (Kd.int .i64) (w0 := w5) w5.heap.size 2 rfl (N := 49) rfl 25 _ _ rfl (N : Int) rfl rfl Tryd.underlying25 (.int .i64 0) 8 info2 rfl (by decide) (by decide) 0 (ok := fun k => w5.heap.size ≤ k) (okp := fun _ => False) rfl (fun _ hk => hk.elim) (Nat.le_refl _) (by omega) hN8.out (Below.refl _ _) (Nat.le_refl _) ?_; intro v49 w6 ho hb hg_ hnew_; obtain ⟨A49, c49, hv49⟩ := Kd.R_slice ho; subst hv49; have HO := am ho; have HG6 := am hg_; have HB6 := am hb; clear hg_ hnew_ ho hb))
      have HS6 := am (Sep.new (own := fun _ => 0) (W := w5) (ps := []) trivial (t := 1) (below_of_grown HG6.out) (rowP_ok (Kd.int .i64) 2 w5.heap.size (.slice A49 N c49) (List.replicate N 0)) (by have h_ := HO.out; simp only [List.length_replicate, Int.toNat_natCast] at h_; exact h_) rfl); simp only [List.cons_append, List.nil_append] at HS6; clear HO HG6 hN8 c0 d1
      go_loopg [10] N (fun kq v10 w' => ∃ (own : Nat → Nat) (i : Nat) (nu : List Int), v10 = .int .i64 (i : Int) ∧ Aside0 (i + kq = N) ∧ Aside0 (nu = List.replicate i (-1) ++ List.replicate (N - i) 0) ∧ Aside0 (Below w5.heap.size w5 w') ∧ Aside0 (Sep own w' [(1, rowP (Kd.int .i64) 2 w5.heap.size (.slice A49 N c49) nu)]))
      case atStart => exact ⟨_, 0, List.replicate N 0, rfl, ⟨by omega⟩, ⟨by simp⟩, HB6, HS6⟩
      case round =>
       clear HS6 HB6; obtain ⟨own, i, nu, rfl, HK, HE, HB, HSp⟩ := hrel
       cases gk with
       | zero =>
        (have hi : i = N := by have := HK.out; omega); subst hi; (have hnu : nu = List.replicate i (-1) := by have h_ := HE.out; simpa using h_); have c1 : decide ((i : Int) < (i : Int)) = false := decide_eq_false (by omega); have c2 : decide (i < i) = false := decide_eq_false (by omega); subst hnu; clear HE HK; have hcc := HCc.out; obtain ⟨gN, cN, hv, hcN, hfN⟩ := HSp.out.int 0 rfl c hcc.1 (by simpa using hcc.2); simp only [Value.slice.injEq] at hv; obtain ⟨hv1, -, hv2⟩ := hv; subst hv1; subst hv2; obtain ⟨z0, z1, ez⟩ := at1_some HC.out; have hbl : Below wr.heap.size wr (wr.alloc (.cells #[.int .i64 0] 2)) := (Below.refl _ _).alloc (Nat.le_refl _) _; have hBl := below_then HB.out HB.out.size hbl; obtain ⟨adc, ec, hxc⟩ := Kd.at_int (Kd.C_below HCC.out hBl) (0 : Int) z0 z1; subst ec; rw [show rd q1 0 = c from ez.symm] at hxc; have hxc' : (wr.alloc (.cells #[.int .i64 0] 2)).cell? (adc.add 0) = some (.int .i64 c) := hxc
        have hxc2 : (wr.alloc (.cells #[.int .i64 0] 2)).cell? adc = some (.int .i64 c) := by
         rwa [show adc.add 0 = adc by unfold Addr.add; rw [if_pos rfl]] at hxc'
        have m1 : wr.cell? ⟨xb, 1, none⟩ = some (.int .i64 0) := (blk_cell (blk_below HX.out HB.out) 1).trans rfl; have m1' : (wr.alloc (.cells #[.int .i64 0] 2)).cell? ⟨xb, 1, none⟩ = some (.int .i64 0) := pw_cell_below hbl m1; have hcN' := pw_cell_below hbl hcN
        have hfN' : (wr.alloc (.cells #[.int .i64 0] 2)).frozen? ⟨gN, c.toNat, none⟩ = false := by
         rw [hbl.frozen (p := ⟨gN, _, none⟩) (Kd.R_lt (HSp.out.get (i := 0) rfl) gN rfl)]; exact hfN
        have hbase := Kd.R_base (HSp.out.get (i := 0) rfl) gN rfl; have HS1 := am ((HSp.out.new (t := 2) hbl (rowP_ok (Kd.int .i64) 2 w5.heap.size (.slice (some ⟨wr.heap.size, 0, none⟩) 1 1) [0]) (R_one (d := Kd.int .i64) wr 0 [.int .i64 0] _ rfl rfl HB.out.size (Nat.le_refl _)) rfl).setInt 0 rfl c 0 rfl); have HB1 := am (hBl.setCell (p := ⟨gN, c.toNat, none⟩) hbase (.int .i64 0)); have m0 : ((wr.alloc (.cells #[.int .i64 0] 2)).setCell ⟨gN, c.toNat, none⟩ (.int .i64 0)).cell? ⟨g, 0, none⟩ = some (.int .i64 tapes) := (blk_cell (blk_below (blk_below HG.out HBw.out) HB1.out) 0).trans rfl; have s0 := eq_true hcc.1; have s1 := eq_true hcc.2; have zq := eq_true (show 0 < q1.length by omega); have zq2 : ((0 : Int) < (q1.length : Int)) = True := eq_true z1; clear hcc hbl hBl hbase ez z0 z1 hxc hcN hfN; go_wp2; (have hsz1 : ((wr.alloc (.cells #[.int .i64 0] 2)).setCell ⟨gN, c.toNat, none⟩ (.int .i64 0)).heap.size = wr.heap.size + 1 := by simp); have hob := am (show w5.heap.size ≤ wr.heap.size + 1 by have := HB.out.size; omega); have HS2 := am (((HS1.out.new (t := 5) ((Below.refl _ _).alloc (Nat.le_refl _) (.cells #[.int .i64 tapes, .int .i64 0, .slice none 0 0, .slice none 0 0] 38)) (blkP_ok (wr.heap.size + 1) (.cells #[.int .i64 tapes, .int .i64 0, .slice none 0 0, .slice none 0 0] 38 (0, 0))) (by rw [← hsz1]; exact ⟨blk_new _ _, Nat.le_refl _⟩) rfl).snoc (t := 6) (rowP_ok Kd.bool 4 w5.heap.size (.slice none 0 0) []) (Kd.R_nil _ _ _ _ _)).snoc (t := 7) (rowsP_ok (Kd.slice 2 (Kd.int .i64)) 25 w5.heap.size (.slice none 0 0) []) (Kd.S_nil _ _ _ _ _)); have HB2 := am (HB1.out.alloc HB1.out.size (.cells #[.int .i64 tapes, .int .i64 0, .slice none 0 0, .slice none 0 0] 38)); simp only [List.cons_append, List.nil_append, List.set_cons_succ, List.set_cons_zero] at HS2; have hnl := am (show ((List.replicate i (-1 : Int)).set c.toNat 0).length = i by simp); have HM2 := am (show tmainF q1 ac ns f ((List.replicate i (-1)).set c.toNat 0) [0] [] [] = some (bs1, rs1) by have h_ := HM.out; simpa using h_); clear HS1 HB1 HSp HB m0 m1 m1' hxc' hxc2 hcN' hfN' hsz1 s0 s1 zq zq2 c1 c2 HM
        generalize (World.alloc (World.setCell _ _ _) _) = W1 at HS2 HB2 ⊢
        generalize wr.heap.size + 1 = ob at HS2 hob ⊢
        generalize (Value.slice (some ⟨wr.heap.size, 0, none⟩) 1 1) = v7 at HS2 ⊢
        generalize (List.replicate i (-1 : Int)).set c.toNat 0 = nu at HS2 HM2 hnl
        go_loopg [11, 13] f (fun kq v11 v13 w' => ∃ (own : Nat → Nat) (nu l : List Int) (va : Value) (bs : List Bool) (vr : Value) (rs : List (List Int)), v13 = .int .i64 (bs.length : Int) ∧ Aside0 (Below w5.heap.size w5 w') ∧ Aside0 (Sep own w' [(1, rowP (Kd.int .i64) 2 w5.heap.size (.slice (some ⟨gN, 0, none⟩) i c49) nu), (2, rowP (Kd.int .i64) 2 w5.heap.size v11 l), (5, blkP ob (.cells #[.int .i64 tapes, .int .i64 0, va, vr] 38 (0, 0))), (6, rowP Kd.bool 4 w5.heap.size va bs), (7, rowsP (Kd.slice 2 (Kd.int .i64)) 25 w5.heap.size vr rs)]) ∧ Aside0 (tmainF q1 ac ns kq nu l bs rs = some (bs1, rs1)) ∧ Aside0 (rs.length = bs.length ∧ nu.length = i ∧ l.length ≤ 1900000 ∧ bs.length ≤ l.length))
        case atStart => exact ⟨_, nu, [0], _, [], _, [], rfl, HB2, HS2, HM2, ⟨rfl, hnl.out, by simp, by simp⟩⟩
        case round =>
         clear HB2 HS2 HM2 hnl; obtain ⟨own, nu, l, va, bs, vr, rs, rfl, HB, HSp, HM, HLn⟩ := hrel
         cases gk with
         | zero => exact absurd HM.out (by simp [tmainF])
         | succ k1 =>
          have hm := HM.out; clear HM; simp only [tmainF] at hm
          cases hk : l[bs.length]? with
          | none =>
           --CUT end
           rw [hk] at hm; have hle : l.length ≤ bs.length := List.getElem?_eq_none_iff.1 hk; (obtain ⟨rfl, rfl⟩ : bs = bs1 ∧ rs = rs1 := by simpa using hm); have c1 : decide ((bs.length : Int) < (l.length : Int)) = false := decide_eq_false (by omega); have c2 : decide (bs.length < l.length) = false := decide_eq_false (by omega); obtain ⟨A7, c7, hv7⟩ := Kd.R_slice (HSp.out.get (i := 1) rfl); subst hv7; obtain ⟨A8, c8, hv8⟩ := Kd.R_slice (HSp.out.get (i := 3) rfl); subst hv8; obtain ⟨A9, c9, hv9⟩ := Kd.S_slice (HSp.out.get (i := 4) rfl); subst hv9; clear hm hk hle; have b9 := (HSp.out.get (i := 2) rfl).1; have r9 := blk_below HZ5.out HB.out; obtain ⟨g0, g1, g2, g3⟩ := bc4 b9; obtain ⟨n0, n1, n2, n3⟩ := bc4 r9; obtain ⟨f0, f1, f2, f3⟩ := bf4 r9; have hsz5 : w.heap.size ≤ w5.heap.size := HBw.out.size; have HRA := am (R_set4 (Kd.R_lower (HSp.out.get (i := 3) rfl) hsz5) r9 (by decide) (.int .i64 tapes) (.int .i64 0) (.slice A8 bs.length c8) (.slice A9 rs.length c9)); have HRB := am (S_set4 (Kd.S_lower (HSp.out.get (i := 4) rfl) hsz5) r9 (by decide) (.int .i64 tapes) (.int .i64 0) (.slice A8 bs.length c8) (.slice A9 rs.length c9)); have HBB := am (below_set4 (below_then HBw.out HBw.out.size HB.out) (Nat.le_refl _) (.int .i64 tapes) (.int .i64 0) (.slice A8 bs.length c8) (.slice A9 rs.length c9)); clear b9 r9 HSp hsz5; go_wp2; refine bodyPost_ret (v := .agg #[.int .i64 tapes, .int .i64 0, .slice A8 bs.length c8, .slice A9 rs.length c9]) (by simp [results, Tryd.results66, go_sem, n0, n1, n2, n3]) rfl ⟨_, _, rfl, Kd.R_mono HRA.out (fun _ _ => trivial), Kd.S_mono HRB.out (fun _ _ => trivial), HBB.out⟩
           --END end
          | some li =>
           rw [hk] at hm; simp only [] at hm; obtain ⟨rw_, hrw, hm1⟩ := oB hm; obtain ⟨a_, ha, hm2⟩ := oB hm1; obtain ⟨⟨nu1, l1, row1⟩, hrow, hm3⟩ := oB hm2; clear hm hm1 hm2; have hlt : bs.length < l.length := (List.getElem?_eq_some_iff.1 hk).1; have c1 : decide ((bs.length : Int) < (l.length : Int)) = true := decide_eq_true (by omega); have c2 : decide (bs.length < l.length) = true := decide_eq_true (by omega); obtain ⟨AL, cL, hv⟩ := Kd.R_slice (HSp.out.get (i := 1) rfl); subst hv; have HRw := am hrw; have HAc := am ha; have HRow := am hrow; have HM3 := am hm3; have HLi := am hk; (have hbl : bs.length < 1900000 := by have := HLn.out.2.2.1; omega); have HLb := am hlt; clear hrw ha hrow hm3 hk hlt; go_wp2; have hb1 : Below wr.heap.size wr (wr.alloc (.cells #[] 2)) := (Below.refl _ _).alloc (Nat.le_refl _) _; have HS1 := am (HSp.out.new (t := 3) hb1 (rowP_ok (Kd.int .i64) 2 w5.heap.size (.slice (some ⟨wr.heap.size, 0, none⟩) 0 0) []) (R_empty (Kd.int .i64) 2 w5.heap.size wr _ HB.out.size (Nat.le_refl _)) rfl); have HB1 := am (below_then HB.out HB.out.size hb1); simp only [List.cons_append, List.nil_append] at HS1; clear hb1 HSp HB c1 c2; have HRl := am (show rw_.length ≤ 1000 by obtain ⟨y0, y1, ey⟩ := at1_some HRw.out; exact HRws.out rw_ (by rw [ey]; exact rdOf_mem y0 y1))
           go_loopg [11, 14, 15] rw_.length (fun kq v11 v14 v15 w' => ∃ (own : Nat → Nat) (nu l row : List Int) (j : Nat), v15 = .int .i64 (j : Int) ∧ Aside0 (j + kq = rw_.length) ∧ Aside0 (Below w5.heap.size w5 w') ∧ Aside0 (Sep own w' [(1, rowP (Kd.int .i64) 2 w5.heap.size (.slice (some ⟨gN, 0, none⟩) i c49) nu), (2, rowP (Kd.int .i64) 2 w5.heap.size v11 l), (5, blkP ob (.cells #[.int .i64 tapes, .int .i64 0, va, vr] 38 (0, 0))), (6, rowP Kd.bool 4 w5.heap.size va bs), (7, rowsP (Kd.slice 2 (Kd.int .i64)) 25 w5.heap.size vr rs), (3, rowP (Kd.int .i64) 2 w5.heap.size v14 row)]) ∧ Aside0 (trowF q1 (rw_.drop j) nu l row = some (nu1, l1, row1)) ∧ Aside0 (row.length = j ∧ nu.length = i ∧ l.length ≤ 1900000 ∧ bs.length < l.length ∧ l[bs.length]? = some li))
           case atStart => exact ⟨_, nu, l, [], 0, by simp, ⟨by omega⟩, HB1, HS1, ⟨by simpa using HRow.out⟩, ⟨rfl, HLn.out.2.1, HLn.out.2.2.1, HLb.out, HLi.out⟩⟩
           case round =>
            clear HB1 HS1 HRow HLb; obtain ⟨own, nu, l, row, j, rfl, HK, HB, HSp, HRow, HLr⟩ := hrel; have hX := blk_below HX.out HB.out; obtain ⟨-, -, -, x3⟩ := bc4 hX; obtain ⟨gL2, cL2, hv, hcL, -⟩ := HSp.out.int 1 rfl (bs.length : Int) (by omega) (by have := HLr.out.2.2.2.1; omega); subst hv; (have eli : rd l (bs.length : Int) = li := by simp [rd, List.getD_eq_getElem?_getD, HLr.out.2.2.2.2]); rw [eli] at hcL; simp only [Int.toNat_natCast] at hcL; have p1 : (bs.length < l.length) = True := eq_true HLr.out.2.2.2.1; obtain ⟨a0, a1, ea⟩ := at1_some HRw.out; obtain ⟨ad, A2r, c3r, e2, hx2, hl2, hC3r⟩ := at_rows (Kd.C_below HD3.out HB.out) li a0 a1; have HB3e := am e2; rw [show rdR ns li = rw_ from ea.symm] at hx2 hl2 hC3r; rw [e2] at x3; have a0' := eq_true a0; have a1' := eq_true a1; clear eli hX e2 ea a0 a1
            cases gk with
            | zero =>
             --CUT acc
             (have hj : j = rw_.length := by have := HK.out; omega); subst hj; have hr := HRow.out; rw [List.drop_length, trowF] at hr; (obtain ⟨rfl, rfl, rfl⟩ : nu = nu1 ∧ l = l1 ∧ row = row1 := by simpa using hr); have c1 : decide ((rw_.length : Int) < (rw_.length : Int)) = false := decide_eq_false (by omega); have c2 : decide (rw_.length < rw_.length) = false := decide_eq_false (by omega); clear hr HRow hC3r; go_wp2
             go_quiet (fail)
             have hb6 := pw_below_drewN (Below.refl wr.heap.size wr) nq; have HSp5 := am (HSp.out.below hb6); have HB5 := am (below_then HB.out HB.out.size hb6); have yL := pw_cell_below hb6 hcL; clear hb6 HSp HB x3 hcL hx2
             generalize wr.drewN nq = w6 at HSp5 HB5 yL ⊢
             go_wp2; clear c1 c2; obtain ⟨b0, b1, eb⟩ := at1_some HAc.out; have HEa := am (show rdOf false ac li = a_ from eb.symm); have hb7 := below_drew1 (Below.refl w6.heap.size w6); have HSp3 := am (HSp5.out.below hb7); have HB3' := am (below_then HB5.out HB5.out.size hb7); have yL' := pw_cell_below hb7 yL; clear hb7 HSp5 HB5 yL eb; obtain ⟨adb, e1, hx⟩ := Kd.at_bool (Kd.C_below HD2.out HB3'.out) li b0 b1; rw [HEa.out] at hx; have hX7 := blk_below HX.out HB3'.out; (have hx2c : w6.drew.cell? ⟨xb, 2, none⟩ = some (.slice (some adb) ac.length d2) := by rw [← e1]; exact (blk_cell hX7 2).trans rfl); obtain ⟨A2o, cva, hva⟩ := Kd.R_slice (HSp3.out.get (i := 3) rfl); subst hva; have hS : w6.drew.cell? ⟨ob, 2, none⟩ = some (.slice A2o bs.length cva) ∧ w6.drew.cell? ⟨xb, 2, none⟩ = some (.slice (some adb) ac.length d2) ∧ w6.drew.cell? ⟨gL2, bs.length, none⟩ = some (.int .i64 li) ∧ w6.drew.cell? (adb.add li.toNat) = some (.bool a_) := ⟨(blk_cell (HSp3.out.get (i := 2) rfl).1 2).trans rfl, hx2c, yL', hx⟩; have b0' := eq_true b0; have b1' := eq_true b1; have HEb := am e1; clear hX7 hx2c yL' hx b0 b1 e1; refine start_ (n := 14) (S := fun w' => w'.cell? ⟨ob, 2, none⟩ = some (.slice A2o bs.length cva) ∧ w'.cell? ⟨xb, 2, none⟩ = some (.slice (some adb) ac.length d2) ∧ w'.cell? ⟨gL2, bs.length, none⟩ = some (.int .i64 li) ∧ w'.cell? (adb.add li.toNat) = some (.bool a_)) (ds := [13]) #[false, false, false, false, false, false, false, false, false, false, false, false, false, false] (by kernel_rfl) rfl rfl hS (fun hHeld => ?_)
             generalize w6.drew = w7 at HSp3 HB3' hS hHeld ⊢
             refine pureA 0 (some 134) (bl 14 1) rfl rfl (h := ?_); refine takeA4 1 (some 135) (bl 14 3) hHeld rfl rfl (h := ?_); refine pureA 2 (some 136) (bl 14 7) rfl rfl (h := ?_); refine takeA4 3 (some 137) (bl 14 15) hHeld rfl rfl (h := ?_); refine pureA 4 (some 138) (bl 14 31) rfl rfl (h := ?_); refine pureA 5 (some 139) (bl 14 63) rfl rfl (h := ?_); refine pureA 6 (some 140) (bl 14 127) rfl rfl (h := ?_); refine takeA4 7 (some 141) (bl 14 255) hHeld rfl rfl (h := ?_); refine pureA 8 (some 142) (bl 14 511) rfl rfl (h := ?_); refine takeA4 9 (some 143) (bl 14 1023) hHeld rfl rfl (h := ?_); refine oneA 10 (some 144) (bl 14 2047) rfl rfl (fun K hK => ?_); refine value_ (v := .slice (some ⟨w7.heap.size, 0, none⟩) 1 1) (w1 := w7.alloc (.cells #[.bool a_] 4)) (by rfl) rfl ?_ ?_
             ·go_simp
             have hba : Below w7.heap.size w7 (w7.alloc (.cells #[.bool a_] 4)) := (Below.refl _ _).alloc (Nat.le_refl _) _; refine hK.out _ _ ⟨pw_cell_below hba hHeld.1, pw_cell_below hba hHeld.2.1, pw_cell_below hba hHeld.2.2.1, pw_cell_below hba hHeld.2.2.2⟩ (fun hHeld2 => ?_); clear hK K; refine normA (h := ?_); refine oneA 11 (some 145) (bl 14 4095) rfl rfl (fun K hK => ?_); refine Kd.R_append_step Kd.bool (w0 := w5) w5.heap.size (by rfl) (.tmp 135) (.tmp 144) 35 4 (.bool false) 1 rfl Tryd.underlying35 info4 rfl (by decide) (by decide) (.slice A2o bs.length cva) bs a_ [.bool a_] _ (fun _ => False) rfl rfl rfl (fun _ hk => hk.elim) (fun _ hk => retag_ge hk) (HSp3.out.rowTag 3 rfl) HB3'.out HB3'.out.size (by have := HLr.out; omega) ?_; intro v5 w8 ho hb hg hat; obtain ⟨A5o, c5o, hv5⟩ := Kd.R_slice ho; subst hv5; have HSp4 := am (HSp3.out.appended 3 rfl ho hg rfl); have HB4 := am hb; simp only [List.set_cons_succ, List.set_cons_zero] at HSp4; obtain ⟨adb6, e6, hx6⟩ := Kd.at_bool (Kd.C_below HD2.out HB4.out) li (of_eq_true b0') (of_eq_true b1'); obtain rfl : adb = adb6 := (by have h_ := HEb.out.symm.trans e6; injection h_); rw [HEa.out] at hx6; obtain ⟨gL3, cL3, hvL, hcL3, -⟩ := HSp4.out.int 1 rfl (bs.length : Int) (by omega) (by have := HLr.out.2.2.2.1; omega); simp only [Value.slice.injEq, Option.some.injEq, Addr.mk.injEq, and_true, true_and] at hvL; obtain ⟨hvL1, hvL3⟩ := hvL; subst hvL1; subst hvL3; rw [show rd l (bs.length : Int) = li by simp [rd, List.getD_eq_getElem?_getD, HLr.out.2.2.2.2]] at hcL3; simp only [Int.toNat_natCast] at hcL3; have hS6 : w8.cell? ⟨ob, 2, none⟩ = some (.slice A2o bs.length cva) ∧ w8.cell? ⟨xb, 2, none⟩ = some (.slice (some adb) ac.length d2) ∧ w8.cell? ⟨gL2, bs.length, none⟩ = some (.int .i64 li) ∧ w8.cell? (adb.add li.toNat) = some (.bool a_) := ⟨(blk_cell (HSp4.out.get (i := 2) rfl).1 2).trans rfl, by rw [← HEb.out]; exact (blk_cell (blk_below HX.out HB4.out) 2).trans rfl, hcL3, hx6⟩; have g2 := hS6.1; have f2 := blk_frozen (HSp4.out.get (i := 2) rfl).1 2; have HSp5 := am (HSp4.out.setBlk 2 rfl 2 (.slice A5o (bs ++ [a_]).length c5o) rfl rfl); have HB5 := am (HB4.out.setCell (p := ⟨ob, 2, none⟩) (by have := hob.out; show w5.heap.size ≤ ob; omega) (.slice A5o (bs ++ [a_]).length c5o)); simp only [List.set_cons_succ, List.set_cons_zero] at HSp5; clear ho hb hg hat HSp3 HB3' HSp4 HB4 hcL3 hx6 e6; refine hK.out _ _ hS6 (fun _ => ?_); clear hK K hS6; refine normA (h := ?_); refine pureA 12 (some 146) (bl 14 8191) rfl rfl (h := ?_); refine last_ (i := 13) (N := none) (bl 14 16383) rfl rfl (by kernel_rfl) (by decide) (fun K hK => ?_); refine skip_ (w1 := w8.setCell ⟨ob, 2, none⟩ (.slice A5o (bs ++ [a_]).length c5o)) (by rfl) rfl ?_ ?_
             ·go_simp
             refine hK.out _ _ ?_; clear hK K; refine done_ (by kernel_rfl) ?_; clear g2 f2 hHeld hHeld2 hba hS b0' b1'
             generalize w8.setCell _ _ = w9 at HSp5 HB5 ⊢
             obtain ⟨A8, c8, hv8⟩ := Kd.S_slice (HSp5.out.get (i := 4) rfl); subst hv8; obtain ⟨A9, c9, hv9⟩ := Kd.R_slice (HSp5.out.get (i := 5) rfl); subst hv9; have m3 : w9.cell? ⟨ob, 3, none⟩ = some (.slice A8 rs.length c8) := (blk_cell (HSp5.out.get (i := 2) rfl).1 3).trans rfl; (have hrl : rs.length < 1900001 := by have h1_ := HLr.out; have h2_ := HLn.out; omega); have HSp6 := am (HSp5.out.drop 5); have HRw3 := am (HSp5.out.rowTag2 5 rfl 7); simp only [List.eraseIdx_cons_succ, List.eraseIdx_cons_zero] at HSp6; clear HSp5
             go_wp2_with (first | ((with_reducible refine gate_builtin (b := .append) (xs := #[.tmp 148, .tmp 150]) rfl ?_); at_builtin; refine Kd.S_append (Kd.slice 2 (Kd.int .i64)) (w0 := w5) w5.heap.size rfl (.tmp 148) (.tmp 150) 36 25 (.slice none 0 0) 24 rfl Tryd.underlying36 info25 rfl (by decide) (by decide) (.slice A8 rs.length c8) rs row [.slice A9 row.length c9] _ _ rfl rfl ?aP ?aK ?aF (HSp6.out.rowsTag (u := 3) 4 rfl (by decide)) ?aB ?aS ?aL ?_; (case aP => exact ⟨_, rfl, HRw3.out⟩); (case aK => intro k hk; exact ⟨Or.inr hk, fun he => by have h_ := (Kd.S_R (HSp6.out.rowsTag (u := 3) 4 rfl (by decide))).1 k he.symm; exact h_.2 hk⟩); (case aF => exact (fun _ hk => Or.inl (retag_ge hk))); (case aB => exact HB5.out); (case aS => exact HB5.out.size); (case aL => omega); intro v8 wA ho hb hg hat; obtain ⟨A10, c10, hv10⟩ := Kd.S_slice ho; subst hv10; have HSp7 := am (HSp6.out.appendedRows (u := 3) 4 rfl ho hg rfl rfl); simp only [List.set_cons_succ, List.set_cons_zero] at HSp7; have HB7 := am hb; have m8 : wA.cell? ⟨ob, 3, none⟩ = some (.slice A8 rs.length c8) := (blk_cell (HSp7.out.get (i := 2) rfl).1 3).trans rfl; have f8 := blk_frozen (HSp7.out.get (i := 2) rfl).1 3; clear ho hb hg hat HSp6 HRw3 HB5 m3))
             have HSp8 := am (HSp7.out.setBlk 2 rfl 3 (.slice A10 (rs ++ [row]).length c10) rfl rfl); have HB8 := am (HB7.out.setCell (p := ⟨ob, 3, none⟩) (by have := hob.out; show w5.heap.size ≤ ob; omega) (.slice A10 (rs ++ [row]).length c10)); simp only [List.set_cons_succ, List.set_cons_zero] at HSp8; rw [show (rs ++ [row]).length = rs.length + 1 by simp] at HSp8 HB8; go_roundg k1
             case measure => omega
             case rel => exact ⟨_, nu, l, _, bs ++ [a_], _, rs ++ [row], by rw [show (bs ++ [a_]).length = bs.length + 1 by simp]; go_num, HB8, HSp8, HM3, ⟨by simp; exact HLn.out.1, HLr.out.2.1, HLr.out.2.2.1, by have := HLr.out.2.2.2.1; simp; omega⟩⟩
             --END acc
            | succ k2 =>
             --CUT row
             (have hj : j < rw_.length := by have := HK.out; omega); have c1 : decide ((j : Int) < (rw_.length : Int)) = true := decide_eq_true (by omega); have c2 : decide (j < rw_.length) = true := decide_eq_true (by omega); (have hj2 : j < 1000 := by have := HRl.out; omega); (have hrowl : row.length < 1900000 := by have h1_ := HLr.out.1; have h2_ := HRl.out; omega); have hr := HRow.out; rw [List.drop_eq_getElem_cons hj, trowF] at hr; obtain ⟨q, hq, hr1⟩ := oB hr; obtain ⟨x, hx, hr2⟩ := oB hr1; have HR2 := am hr2; obtain ⟨ad2, e3, hx3⟩ := Kd.at_int hC3r (j : Int) (by omega) (by omega); subst e3; (have er : rd rw_ (j : Int) = rw_[j] := by simp [rd, List.getD_eq_getElem?_getD, List.getElem?_eq_getElem hj]); rw [er] at hx3; have hqq := hq; generalize rw_[j] = t at hx3 hqq HR2; simp only [Int.toNat_natCast] at hx3; obtain ⟨t0, t1, et⟩ := at1_some hqq; obtain ⟨q0, q1_, eq_⟩ := at1_some hx; have HQ := am (show rd q1 t = q from et.symm); have HXn := am (show rd nu q = x from eq_.symm); have t0' := eq_true t0; have t1' := eq_true t1; have q0' := eq_true q0; have q1' : (q < (i : Int)) = True := eq_true (by have := HLr.out.2.1; omega); have p2 : (j < rw_.length) = True := eq_true hj; clear hr hr1 hr2 hq hx hqq et eq_ er t0 t1 q0 q1_ HRow hC3r; go_wp2
             go_quiet (fail)
             have hb6 := pw_below_drewN (Below.refl wr.heap.size wr) nq; have y3 := pw_cell_below hb6 x3; have yL := pw_cell_below hb6 hcL; have y2 := pw_cell_below hb6 hx2; have ye := pw_cell_below hb6 hx3; have HSp5 := am (HSp.out.below hb6); have HB5 := am (below_then HB.out HB.out.size hb6); clear hb6 HSp HB x3 hcL hx2 hx3
             generalize wr.drewN nq = w6 at y3 yL y2 ye HSp5 HB5 ⊢
             go_wp2
             go_quiet (fail)
             have hb6 := pw_below_drewN (Below.refl w6.heap.size w6) nq; have HSp6 := am (HSp5.out.below hb6); have HB6 := am (below_then HB5.out HB5.out.size hb6); clear hb6 HSp5 HB5 y3 yL y2 ye
             generalize w6.drewN nq = w7 at HSp6 HB6 ⊢
             obtain ⟨adc7, ec, hcc⟩ := Kd.at_int (Kd.C_below HCC.out HB6.out) t (of_eq_true t0') (of_eq_true t1'); (obtain rfl : adc = adc7 := by injection ec); clear ec; rw [HQ.out] at hcc; obtain ⟨gN2, cN2, hv, hcN, hfN⟩ := HSp6.out.int 0 rfl q (of_eq_true q0') (by have := of_eq_true q1'; have := HLr.out.2.1; omega); simp only [Value.slice.injEq, Option.some.injEq, Addr.mk.injEq, and_true, true_and] at hv; obtain ⟨hv1, hv2, hv3⟩ := hv; subst hv1; subst hv3; rw [HXn.out] at hcN; obtain ⟨A11, c11, hv11⟩ := Kd.R_slice (HSp6.out.get (i := 5) rfl); subst hv11; clear hv2; by_cases hxn : x < 0
             ·have hr5 := HR2.out; rw [if_pos hxn] at hr5; by_cases hll : l.length < 1900000
              ·rw [if_pos hll] at hr5; have HR5 := am hr5; have d2 : decide (x < 0) = true := decide_eq_true hxn; have HSp7 := am (HSp6.out.setInt 0 rfl q (l.length : Int) rfl); have HB7 := am (HB6.out.setCell (p := ⟨gN, q.toNat, none⟩) (Kd.R_base (HSp6.out.get (i := 0) rfl) gN rfl) (.int .i64 (l.length : Int))); simp only [List.set_cons_succ, List.set_cons_zero] at HSp7; clear hr5 HR2 hxn HSp6 HB6
               go_upto_region 31 with (fail)
               clear hcc hcN hfN
               generalize w7.setCell _ _ = w8 at HSp7 HB7 ⊢
               go_wp2_with (first | ((with_reducible refine gate_builtin (b := .append) (xs := #[.tmp 120, .tmp 122]) rfl ?_); at_builtin; refine Kd.R_append (Kd.int .i64) (w0 := w5) w5.heap.size rfl (.tmp 120) (.tmp 122) 25 2 (.int .i64 0) 8 rfl Tryd.underlying25 info2 rfl (by decide) (by decide) (Value.slice (some ⟨gL2, 0, none⟩) l.length cL2) l (t) [.int .i64 (t)] _ (fun _ => False) rfl rfl ?aP (fun _ hk => hk.elim) ?aF (HSp7.out.rowTag 1 rfl) ?aB ?aS ?aL ?_; (case aP => exact rfl); (case aF => exact (fun _ hk => retag_ge hk)); (case aB => exact HB7.out); (case aS => exact HB7.out.size); (case aL => omega); intro v_l w_l ho hb hg hat; have HSp_l := am (HSp7.out.appended 1 rfl ho hg rfl); have HB_l := am hb; simp only [List.set_cons_succ, List.set_cons_zero] at HSp_l; clear ho hb hg hat HSp7 HB7; obtain ⟨gN3, cN3, hv, hcN8, hfN8⟩ := HSp_l.out.int 0 rfl q (of_eq_true q0') (by have := of_eq_true q1'; have := HLr.out.2.1; simp only [List.length_set]; omega); simp only [Value.slice.injEq, Option.some.injEq, Addr.mk.injEq, and_true, true_and] at hv; obtain ⟨hv1, hv2, hv3⟩ := hv; subst hv1; subst hv3; rw [rd_set_same (of_eq_true q0') (by have := of_eq_true q1'; have := HLr.out.2.1; omega)] at hcN8; clear hv2; obtain ⟨adc8, ec8, hcc8⟩ := Kd.at_int (Kd.C_below HCC.out HB_l.out) t (of_eq_true t0') (of_eq_true t1'); obtain rfl : adc = adc8 := (by injection ec8); rw [show rd q1 t = q from HQ.out] at hcc8; clear ec8) | ((with_reducible refine gate_builtin (b := .append) (xs := #[.tmp 124, .tmp 132]) rfl ?_); at_builtin; refine Kd.R_append (Kd.int .i64) (w0 := w5) w5.heap.size rfl (.tmp 124) (.tmp 132) 25 2 (.int .i64 0) 8 rfl Tryd.underlying25 info2 rfl (by decide) (by decide) (Value.slice A11 row.length c11) row ((l.length : Int)) [.int .i64 ((l.length : Int))] _ (fun _ => False) rfl rfl ?aP (fun _ hk => hk.elim) ?aF (HSp_l.out.rowTag 5 rfl) ?aB ?aS ?aL ?_; (case aP => exact rfl); (case aF => exact (fun _ hk => retag_ge hk)); (case aB => exact HB_l.out); (case aS => exact HB_l.out.size); (case aL => omega); intro v_r w_r ho hb hg hat; have HSp_r := am (HSp_l.out.appended 5 rfl ho hg rfl); have HB_r := am hb; simp only [List.set_cons_succ, List.set_cons_zero] at HSp_r; clear ho hb hg hat HSp_l HB_l))
               go_roundg k2
               case measure => omega
               case rel => exact ⟨_, nu.set q.toNat (l.length : Int), l ++ [t], row ++ [(l.length : Int)], j + 1, by go_num, ⟨by have := HK.out; omega⟩, HB_r, HSp_r, HR5, ⟨by simp [HLr.out.1], by simp [HLr.out.2.1], by simp; omega, by have := HLr.out.2.2.2.1; simp; omega, getE_app HLr.out.2.2.2.2⟩⟩
              ·rw [if_neg hll] at hr5; cases hr5
             ·have hr5 := HR2.out; rw [if_neg hxn] at hr5; have HR5 := am hr5; have d2 : decide (x < 0) = false := decide_eq_false hxn; clear hr5 HR2 hxn
              go_wp2_with (first | ((with_reducible refine gate_builtin (b := .append) (xs := #[.tmp 124, .tmp 132]) rfl ?_); at_builtin; refine Kd.R_append (Kd.int .i64) (w0 := w5) w5.heap.size rfl (.tmp 124) (.tmp 132) 25 2 (.int .i64 0) 8 rfl Tryd.underlying25 info2 rfl (by decide) (by decide) (Value.slice A11 row.length c11) row (x) [.int .i64 (x)] _ (fun _ => False) rfl rfl ?aP (fun _ hk => hk.elim) ?aF (HSp6.out.rowTag 5 rfl) ?aB ?aS ?aL ?_; (case aP => exact rfl); (case aF => exact (fun _ hk => retag_ge hk)); (case aB => exact HB6.out); (case aS => exact HB6.out.size); (case aL => omega); intro v_r w_r ho hb hg hat; have HSp_r := am (HSp6.out.appended 5 rfl ho hg rfl); have HB_r := am hb; simp only [List.set_cons_succ, List.set_cons_zero] at HSp_r; clear ho hb hg hat HSp6 HB6))
              go_roundg k2
              case measure => omega
              case rel => exact ⟨_, nu, l, row ++ [x], j + 1, by go_num, ⟨by have := HK.out; omega⟩, HB_r, HSp_r, HR5, ⟨by simp [HLr.out.1], HLr.out.2⟩⟩
             --END row
       | succ k1 =>
        (have hi : i < N := by have := HK.out; omega); have c1 : decide ((i : Int) < (N : Int)) = true := decide_eq_true (by omega); have c2 : decide (i < N) = true := decide_eq_true (by omega); (have hnl : nu.length = N := by rw [HE.out]; simp; omega); obtain ⟨gN, cN, hv, hcN, hfN⟩ := HSp.out.int 0 rfl (i : Int) (by omega) (by omega); simp only [Value.slice.injEq] at hv; obtain ⟨hv1, -, hv2⟩ := hv; subst hv1; subst hv2; simp only [Int.toNat_natCast] at hcN hfN; (have hi2 : i < 1900000 := by omega); have hbase := Kd.R_base (HSp.out.get (i := 0) rfl) gN rfl; have HBs := am hbase; clear hnl hbase; go_wp2; go_roundg k1
        case measure => omega
        case rel =>
         exact ⟨own, i + 1, nu.set i (-1), by go_num, ⟨by have := HK.out; omega⟩, ⟨neg_step hi nu HE.out⟩, ⟨HB.out.setCell HBs.out _⟩, ⟨by have h_ := HSp.out.setInt 0 rfl (i : Int) (-1) rfl; simpa using h_⟩⟩
     ·have h4 := H3.out; rw [if_neg hqc] at h4; have H4 := am h4; (have d1 : (q2 == count0) = false := by simpa using hqc); (have d2 : decide (q2 = count0) = false := by simpa using hqc); clear H3 h4 hqc; go_wp2; go_roundg k1
      case measure => omega
      case rel => exact ⟨q1, q2, rfl, HB5, HIS5, HO5, H4⟩
  | succ k1 =>
   (have hi : i < ac.length := by have := HK.out; omega); have c1 : decide ((i : Int) < (ac.length : Int)) = true := decide_eq_true (by omega); have c2 : decide (i < ac.length) = true := decide_eq_true (by omega); (have hlg : cl0.length = ac.length := by rw [HE.out]; simp [bitL]; omega); (have hi2 : i < 1900000 := by have := HAC.out; omega); obtain ⟨ad, e1, hx⟩ := Kd.at_bool (Kd.C_below hD2 HB.out) (i : Int) (by omega) (by omega); subst e1; obtain ⟨gc, cg, hv, hgb, -⟩ := Kd.R_form HO.out (by omega); simp only [Value.slice.injEq] at hv; obtain ⟨hv1, -, hv2⟩ := hv; subst hv1; subst hv2; rw [← hlg] at HO; obtain ⟨hc, hf⟩ := Kd.R_cell (0 : Int) HO.out (i : Int) (by omega) (by omega); simp only [Int.toNat_natCast] at hx hc hf; have hne : xb ≠ gc := fun e_ => (HO.out.1 gc rfl) e_.symm; have hs := bit_step hi cl0 HE.out; have HS := am hs; have hl1 : (i < ac.length) = True := eq_true hi; have HLg := am hlg; clear hs hlg hbx hgx hD2 hD3
   cases hbb : rdOf false ac (i : Int) with
   | true =>
    rw [hbb] at hx HS; clear hbb; have HO2 := am (Kd.R_put HO.out (i : Int) 1).1; have HB2 := am (HB.out.setCell (p := ⟨gc, i, none⟩) (by rw [hxb]; exact hgb) (.int .i64 1)); have HIS2 := am (is_far HIS.out (p := ⟨gc, i, none⟩) hne (.int .i64 1)); rw [HLg.out] at HO2; simp only [Int.toNat_natCast] at HO2; go_wp2; go_roundg k1
    case measure => omega
    case rel => exact ⟨i + 1, cl0.set i 1, by go_num, ⟨by have := HK.out; omega⟩, HB2, HIS2, HO2, ⟨by have h_ := HS.out; simpa using h_⟩⟩
   | false =>
    rw [hbb] at hx HS; clear hbb; go_wp2; go_roundg k1
    case measure => omega
    case rel => exact ⟨i + 1, cl0, by go_num, ⟨by have := HK.out; omega⟩, HB, HIS, by rw [← HLg.out]; exact HO, ⟨by have h_ := HS.out; simpa using h_⟩⟩
end Go.Proofs.YtelicdmaohllgaaDoor.X
namespace Go.Proofs.YtelicdmaohllgaaDoor.X
set_option maxHeartbeats 16000000
set_option maxRecDepth 100000
open Go.RowKit Go.Proofs.YtelicdmaohllgaaDoorW.PrintWords Go.Proofs.YtelicdmaohllgaaDoorW.PrintLast Go.Proofs.YtelicdmaohllgaaDoorW.PrintMore
attribute [local go_sem] max2_int min2_int max_two min_two max_three min_three max_four min_four
set_option linter.unusedVariables false
set_option linter.unusedSimpArgs false
def spec_l01Tidied.f (k : Nat) (s0_0 : Int) (s0_1 : Int) (s0_2 : List Bool) (s0_3 : List (List Int)) : Option (Int × Int × List Bool × (List (List Int)) × Int × Int) :=
 (spec_l01Right.f k s0_0 s0_1 s0_2 s0_3).bind fun p => if p.2.2.1.length ≤ 1900000 ∧ (∀ r_ ∈ p.2.2.2.1, r_.length ≤ 1000) then
  (tidiedF k k s0_0 p.2.2.1 p.2.2.2.1).bind fun q => some (s0_0, 0, q.1, q.2, s0_0, s0_1) else none
/-- Nothing that was there is changed. -/
theorem spec_l01Tidied.same (k : Nat) (g : Nat) (s0_0 : Int) (s0_1 : Int) (s0_2 : List Bool) (s0_3 : List (List Int)) (A2 : Option Addr) (c2 : Nat) (A3 : Option Addr) (c3 : Nat) (r1 : Int) (r2 : Int) (r3 : List Bool) (r4 : List (List Int)) (r5 : Int) (r6 : Int) (w : World) (hb : w.heap[g]? = some (.cells #[.int .i64 s0_0, .int .i64 s0_1, .slice A2 s0_2.length c2, .slice A3 s0_3.length c3] 38 (0, 0))) (hC2 : Kd.C Kd.bool w A2 s0_2.length s0_2) (hC3 : Kd.C (Kd.slice 2 (Kd.int .i64)) w A3 s0_3.length s0_3) (h : spec_l01Tidied.f k s0_0 s0_1 s0_2 s0_3 = some (r1, r2, r3, r4, r5, r6)) :
  Calls Tryd.prog 66 #[.pointer (some ⟨g, 0, none⟩)] w (RightPost w s0_0 r3 r4) ∧ r1 = s0_0 ∧ r2 = 0 ∧ r5 = s0_0 ∧ r6 = s0_1 := by
 unfold spec_l01Tidied.f at h; obtain ⟨⟨q1, q2, q3, q4, q5, q6⟩, hr, h⟩ := oB h
 have hc : q3.length ≤ 1900000 ∧ (∀ r_ ∈ q4, r_.length ≤ 1000) := by
  by_cases e : q3.length ≤ 1900000 ∧ (∀ r_ ∈ q4, r_.length ≤ 1000)
  ·exact e
  ·rw [if_neg e] at h; cases h
 rw [if_pos hc] at h; obtain ⟨⟨bs, rs⟩, ht, h⟩ := oB h; simp only [Option.some.injEq, Prod.mk.injEq] at h; obtain ⟨rfl, rfl, rfl, rfl, rfl, rfl⟩ := h; exact ⟨tidied_calls w g A2 c2 A3 c3 hb hC2 hC3 hr hc.1 hc.2 ht, rfl, rfl, rfl, rfl⟩
def spec_l01Tidied_v.f (k : Nat) (a0 : Int) (a1 : Int) (l2 : List Bool) (l3 : List (List Int)) : Option (Int × Int × List Bool × List (List Int)) := (spec_l01Tidied.f k a0 a1 l2 l3).bind fun b => some (b.1, b.2.1, b.2.2.1, b.2.2.2.1)
theorem spec_l01Tidied_v.calls (k : Nat) {g : Nat} (a0 : Int) (a1 : Int) (A2 : Option Addr) (c2 : Nat) (l2 : List Bool) (A3 : Option Addr) (c3 : Nat) (l3 : List (List Int)) (r1 : Int) (r2 : Int) (r3 : List Bool) (r4 : List (List Int)) (w : World) (hbox : w.heap[g]? = some (.cells #[.int .i64 a0, .int .i64 a1, .slice A2 l2.length c2, .slice A3 l3.length c3] 38 (0, 0))) (hr2 : Kd.C Kd.bool w A2 l2.length l2) (hc2 : l2.length ≤ c2) (hr3 : Kd.C (Kd.slice 2 (Kd.int .i64)) w A3 l3.length l3) (hc3 : l3.length ≤ c3) (h : spec_l01Tidied_v.f k a0 a1 l2 l3 = some (r1, r2, r3, r4)) :
  Calls Tryd.prog 66 #[.pointer (some ⟨g, 0, none⟩)] w fun e w' => ∃ v2_ v3_ : Value, e = .returned (.agg #[.int .i64 r1, .int .i64 r2, v2_, v3_]) ∧ Kd.R Kd.bool 4 w' w.heap.size (fun _ => True) v2_ r3 ∧ Kd.S (Kd.slice 2 (Kd.int .i64)) 25 w' w.heap.size (fun _ => True) v3_ r4 ∧ Below w.heap.size w w' := by
 unfold spec_l01Tidied_v.f at h; obtain ⟨⟨p1, p2, p3, p4, p5, p6⟩, h1, h2⟩ := oB h; simp only [Option.some.injEq, Prod.mk.injEq] at h2; obtain ⟨rfl, rfl, rfl, rfl⟩ := h2; obtain ⟨hcall, rfl, rfl, -, -⟩ := spec_l01Tidied.same k g a0 a1 l2 l3 A2 c2 A3 c3 _ _ _ _ _ _ w hbox hr2 hr3 h1; refine hcall.mono ?_; rintro e w' ⟨va, vr, rfl, hR, hS, hbl⟩; exact ⟨va, vr, rfl, hR, hS, hbl⟩
def spec_l00In.f (a0 : Int) (a1 : Int) (a2 : Int) : Option (Bool) := if a0 ≥ a1 then (some (decide (a0 ≤ a2))) else (some false)
theorem spec_l00In.calls (a0 : Int) (a1 : Int) (a2 : Int) (r : Bool) (w : World) (h : spec_l00In.f a0 a1 a2 = some r) :
  Calls Tryd.prog 56 #[.int .i64 a0, .int .i64 a1, .int .i64 a2] w fun e w' => e = .returned (.bool r) ∧ Drawn0 w w' := by
 have H : (if a0 ≥ a1 then (some (decide (a0 ≤ a2))) else (some false)) = some r := h; clear h; by_cases c4 : a0 ≥ a1
 ·rw [if_pos c4] at H; have c4b0 : decide (a1 ≤ a0) = true := decide_eq_true c4; clear c4; obtain rfl := Option.some.inj H; go_enter Tryd.func56, Tryd.ntmps56; go_wp2; go_ret; exact ⟨tF, tD⟩
 ·rw [if_neg c4] at H; have c4b0 : decide (a1 ≤ a0) = false := decide_eq_false c4; clear c4; obtain rfl := Option.some.inj H; go_enter Tryd.func56, Tryd.ntmps56; go_wp2; go_ret; exact ⟨tF, tD⟩
end Go.Proofs.YtelicdmaohllgaaDoor.X
