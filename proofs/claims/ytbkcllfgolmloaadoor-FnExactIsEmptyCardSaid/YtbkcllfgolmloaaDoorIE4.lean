import Derived.Test.YtbkcllfgolmloaaDoorIE2
import Derived.Maps.OwnSet
import Derived.Maps.Ext
import Derived.Carry
import Derived.Test.YtbkcllfgolmloaaDoorIE3
import Derived.Outline
namespace Go.Proofs.YtbkcllfgolmloaaDoor.X
open Go Go.RowKit Go.Proofs.YtbkcllfgolmloaaDoorW.PrintWords Go.Proofs.YtbkcllfgolmloaaDoorW.PrintLast Go.Proofs.YtbkcllfgolmloaaDoorW.PrintMore
set_option linter.unusedVariables false
set_option linter.unusedSimpArgs false
section
variable {P : Program} {ops : Array Oper} {rest : List Oper} {o : Oper} {a : Act} {w : World} {Q : Exit → Act → World → Prop}
theorem runs_val {x : Operand} {f : FuncId} {fn : Func} {caps : Array Value} {bs : Array Operand} {ts : Array TypeId} (hf : P.funcs[f]? = some fn) (hname : (fn.name == "runtime.NumGoroutine") = false) (hb : fn.body.isSome = true) (args : Array Value)
  (hop : o.op = .call { callee := .value x, args := bs, argTypes := ts }) (hx : a.eval x = .func (.func f) #[] caps) (hargs : bs.map a.eval = args) : (execOp a.eval o).run P w = .ok (.enter f (args ++ caps)) w := by
 have he := enters_ hf hname hb (args ++ caps) w
 unfold execOp
 simp [hop, resolve, Deferred.ofValue, invoke, hx, hargs, he]
end
/-- A function value that answers bs F does, wherever what was there when the call began still is. -/
structure CloOK {α β : Type} (P : Program) (w : World) (f : FuncId) (caps : Array Value) (arg : α → Array Value) (F : α → Option β) (enc : β → Value) : Prop where
 fn : ∃ fn, P.funcs[f]? = some fn ∧ (fn.name == "runtime.NumGoroutine") = false ∧ fn.body.isSome = true
 run : ∀ x r W, Below w.heap.size w W → F x = some r → Calls P f (arg x ++ caps) W fun e W' => e = .returned (enc r) ∧ Below W.heap.size W W'
section
variable {H : Type} {P : Program} (w : World) {ops : Array Oper} {rest : List Oper} {o : Oper} {a : Act} {Q : Exit → Act → World → Prop}
end
theorem made_at {P : Program} {k : TypeId} {R : Value → Option (DataW Unit × List MemPlace)} (W : World) {n : Nat} (hn : W.heap.size = n) : (W.alloc (.map #[] 0)).ownsMap P k R n 0 (.map []) := hn ▸ World.ownsMap_made _ _ _ _
def retag (own : Nat → Nat) (n t : Nat) : Nat → Nat := fun k => if k < n then own k else t
theorem retag_lt {own : Nat → Nat} {n t k : Nat} (h : k < n) : retag own n t k = own k := by simp [retag, h]
theorem retag_ge {own : Nat → Nat} {n t k : Nat} (h : n ≤ k) : retag own n t k = t := by simp [retag, Nat.not_lt.2 h]
section
variable {α : Type} {d : Kd α} {e base s : Nat} {own : Nat → Nat} {W W1 : World} {v : Value} {xs : List α}
theorem R_tag (h : d.R e W base (fun k => own k = s) v xs) (t : Nat) : d.R e W base (fun k => retag own W.heap.size t k = s) v xs :=
 Kd.R_mono (Kd.R_bound h) (fun k hk => by rw [retag_lt hk.2.2.1]; exact hk.1)
theorem S_tagged (h : Kd.S d e W base (fun k => own k = s) v xs) (t : Nat) : Kd.S d e W base (fun k => retag own W.heap.size t k = s) v xs :=
 Kd.S_mono (Kd.S_bound h) (fun k hk => by rw [retag_lt hk.2.2.1]; exact hk.1)
theorem R_other (h : d.R e W base (fun k => own k = s) v xs) {row : Option Nat} {t : Nat} (hg : W.grownBy W1 row) (hr : ∀ k, row = some k → own k = t) (hst : s ≠ t) : d.R e W1 base (fun k => own k = s) v xs :=
 Kd.R_grown h hg (fun k hk he => hst (hk.symm.trans (hr k he.symm)))
theorem S_other (h : Kd.S d e W base (fun k => own k = s) v xs) {row : Option Nat} {t : Nat} (hg : W.grownBy W1 row) (hr : ∀ k, row = some k → own k = t) (hst : s ≠ t) : Kd.S d e W1 base (fun k => own k = s) v xs :=
 Kd.S_grown h hg (fun k hk he => hst (hk.symm.trans (hr k he.symm)))
theorem R_otherT (h : d.R e W base (fun k => own k = s) v xs) {row : Option Nat} {t : Nat} (hg : W.grownBy W1 row) (hr : ∀ k, row = some k → retag own W.heap.size t k = t) (hst : s ≠ t) : d.R e W1 base (fun k => retag own W.heap.size t k = s) v xs := R_other (R_tag h t) hg hr hst
theorem S_otherT (h : Kd.S d e W base (fun k => own k = s) v xs) {row : Option Nat} {t : Nat} (hg : W.grownBy W1 row) (hr : ∀ k, row = some k → retag own W.heap.size t k = t) (hst : s ≠ t) : Kd.S d e W1 base (fun k => retag own W.heap.size t k = s) v xs := S_other (S_tagged h t) hg hr hst
theorem blk_otherT {g : Nat} {o : Obj} (h : W.heap[g]? = some o ∧ own g = s) {row : Option Nat} {t : Nat} (hg : W.grownBy W1 row) (hr : ∀ k, row = some k → retag own W.heap.size t k = t) (hst : s ≠ t) : W1.heap[g]? = some o ∧ retag own W.heap.size t g = s := by
 have e : retag own W.heap.size t g = s := by rw [retag_lt (blk_lt h.1)]; exact h.2
 exact ⟨blk_grown h.1 hg (fun he => hst (e.symm.trans (hr g he.symm))), e⟩
theorem map_otherT {P : Program} {k : TypeId} {R : Value → Option (DataW Unit × List MemPlace)} {g n : Nat} {D : DataW Unit} (h : W.ownsMap P k R g n D ∧ own g = s) {row : Option Nat} {t : Nat} (hg : W.grownBy W1 row) (hr : ∀ k, row = some k → retag own W.heap.size t k = t) (hst : s ≠ t) : W1.ownsMap P k R g n D ∧ retag own W.heap.size t g = s := by
 have e : retag own W.heap.size t g = s := by rw [retag_lt h.1.lt]; exact h.2
 exact ⟨h.1.kept hg (fun he => hst (e.symm.trans (hr g he.symm))), e⟩
theorem R_rowT (h : d.R e W base (fun k => own k = s) v xs) : ∀ k, v.ownBlock = some k → retag own W.heap.size s k = s := fun k hk => (R_tag h s).1 k hk
theorem S_rowT (h : Kd.S d e W base (fun k => own k = s) v xs) : ∀ k, v.ownBlock = some k → retag own W.heap.size s k = s := fun k hk => (Kd.S_R (S_tagged h s)).1 k hk
theorem map_below {P : Program} {k : TypeId} {R : Value → Option (DataW Unit × List MemPlace)} {g n : Nat} {D : DataW Unit} (h : W.ownsMap P k R g n D) (hb : Below W.heap.size W W1) : W1.ownsMap P k R g n D := h.kept (grown_of_below hb none) (by simp)
end
/-- A literal of one element without rows. -/
theorem R_one {α : Type} {d : Kd α} {e base : Nat} (W : World) (x : α) (cs : List Value) (ok : Nat → Prop) (hx : d.M (W.alloc (.cells cs.toArray e)) base (fun _ => False) x cs) (hl : cs.length = d.sz) (hb : base ≤ W.heap.size) (hok : ok W.heap.size) :
  d.R e (W.alloc (.cells cs.toArray e)) base ok (.slice (some ⟨W.heap.size, 0, none⟩) 1 1) [x] := by
 refine ⟨fun k hk => ?_, cs, ?_, ?_⟩
 ·have : W.heap.size = k := by simpa [Value.ownBlock] using hk
  subst this
  exact hok
 ·have h2 := World.ownsRow_lit (base := base) (e := e) (size := d.sz) W cs.toArray 1 hb (by simp [maxLen]) (by simpa using hl)
  simpa using h2
 ·refine ⟨by simp [hl], fun j p hj => ?_⟩
  have hj0 : j = 0 := by have := (List.getElem?_eq_some_iff.1 hj).1; simp at this; omega
  subst hj0
  have hp : x = p := by simpa using hj
  subst hp
  rw [Nat.zero_mul, List.drop_zero, ← hl, List.take_length]
  exact d.M_mono (fun k hk => hk.elim) hx
def set4 (W : World) (g : Nat) (a b c d : Value) : World := (((W.setCell ⟨g, 0, none⟩ a).setCell ⟨g, 1, none⟩ b).setCell ⟨g, 2, none⟩ c).setCell ⟨g, 3, none⟩ d
theorem set4_other {W : World} {g : Nat} {a b c d : Value} {k : Nat} (h : k ≠ g) : (set4 W g a b c d).heap[k]? = W.heap[k]? := by
 unfold set4
 rw [Below.heap_setCell _ _ _ _ h, Below.heap_setCell _ _ _ _ h, Below.heap_setCell _ _ _ _ h, Below.heap_setCell _ _ _ _ h]
theorem R_set4 {α : Type} {d : Kd α} {e base : Nat} {ok : Nat → Prop} {W : World} {v : Value} {xs : List α} (h : d.R e W base ok v xs) {g t : Nat} {cs : Array Value} (hb : W.heap[g]? = some (.cells cs t (0, 0))) (ht : ∀ q, q ∈ e :: d.E → q ≠ t) (a b c u : Value) : d.R e (set4 W g a b c u) base ok v xs :=
 Kd.R_mono (Kd.R_step (Kd.R_types h hb ht) (fun k hk _ => set4_other hk.2)) (fun _ hk => hk.1)
theorem S_set4 {α : Type} {d : Kd α} {e base : Nat} {ok : Nat → Prop} {W : World} {v : Value} {xs : List α} (h : Kd.S d e W base ok v xs) {g t : Nat} {cs : Array Value} (hb : W.heap[g]? = some (.cells cs t (0, 0))) (ht : ∀ q, q ∈ e :: d.E → q ≠ t) (a b c u : Value) : Kd.S d e (set4 W g a b c u) base ok v xs :=
 Kd.S_mono (Kd.S_step (Kd.S_types h hb ht) (fun k hk _ => set4_other hk.2)) (fun _ hk => hk.1)
theorem below_set4 {w W : World} {g : Nat} (h : Below w.heap.size w W) (hg : w.heap.size ≤ g) (a b c d : Value) : Below w.heap.size w (set4 W g a b c d) := by
 unfold set4
 exact (((h.setCell hg _).setCell hg _).setCell hg _).setCell hg _
def inI64 (t : Int) : Bool := decide (-9223372036854775808 ≤ t) && decide (t ≤ 9223372036854775807)
theorem inI64_wf {t : Int} (h : inI64 t = true) : (Lit.int .i64 t).wf = true := by
 simp only [inI64, Bool.and_eq_true, decide_eq_true_eq] at h
 exact WalkArith.wf_i64 h
section
variable {K : Type} [DecidableEq K]
/-- One state's row: from column c on, m columns; l: the states met so far; lim: how many there may be (0: any number that fits). -/
def growRow (good : K → Bool) (next : Int → Option K) : Nat → Int → List K → List Int → Option (List K × List Int)
 | 0, _, l, row => some (l, row)
 | m + 1, c, l, row => (next c).bind fun t => if good t = true then (if t ∈ l then growRow good next m (c + 1) l (row ++ [(l.idxOf t : Int)]) else if l.length < 1048576 then growRow good next m (c + 1) (l ++ [t]) (row ++ [(l.length : Int)]) else none) else none
def growL (good : K → Bool) (acc : K → Option Bool) (next : K → Int → Option K) (W : Nat) : Nat → List K → List Bool → List (List Int) → Option (List Bool × List (List Int))
 | 0, _, _, _ => none
 | f + 1, l, bs, rs => match l[bs.length]? with
  | none => some (bs, rs)
  | some k => (growRow good (next k) W 0 l []).bind fun p => (acc k).bind fun a => growL good acc next W f p.1 (bs ++ [a]) (rs ++ [p.2])
/-- The map of the numbers, bs a datum. -/
def idsD (lit : K → Lit) (l : List K) : DataW Unit := l.zipIdx.foldl (fun D p => D.put (lit p.1) (.lit (.int .i64 (p.2 : Int)))) (.map [])
omit [DecidableEq K] in
theorem idsD_snoc (lit : K → Lit) (l : List K) (k : K) : idsD lit (l ++ [k]) = (idsD lit l).put (lit k) (.lit (.int .i64 (l.length : Int))) := by
 simp [idsD, List.zipIdx_append, List.foldl_append]
omit [DecidableEq K] in
theorem snoc_ind {P : List K → Prop} (h0 : P []) (h1 : ∀ l k, P l → P (l ++ [k])) : ∀ l, P l := by
 intro l
 suffices h : ∀ n (l : List K), l.length = n → P l from h _ l rfl
 intro n
 induction n with
 | zero =>
  intro l hl
  rw [List.length_eq_zero_iff.1 hl]
  exact h0
 | succ n ih =>
  intro l hl
  rcases List.eq_nil_or_concat l with rfl | ⟨L, b, rfl⟩
  ·simp at hl
  ·simp only [List.concat_eq_append] at hl ⊢
   exact h1 L b (ih L (by simpa using hl))
omit [DecidableEq K] in
theorem idsD_isMap (lit : K → Lit) : ∀ l : List K, Maps.IsMap (idsD lit l) := snoc_ind Maps.isMap_empty (fun l k h => by rw [idsD_snoc]; exact h.put _ _)
theorem idsD_has {lit : K → Lit} (hi : ∀ a b, lit a = lit b → a = b) (hk : ∀ a, WideAt.IsKeyLit (lit a)) (k : K) : ∀ l : List K, Maps.has (idsD lit l) (lit k) = decide (k ∈ l) := by
 apply snoc_ind
 ·simp [idsD, Maps.has]
 ·intro l k' ih
  rw [idsD_snoc]
  by_cases e : k = k'
  ·subst e
   rw [Maps.has_put_same (idsD_isMap lit l) (hk k)]
   simp
  ·rw [Maps.has_put_other (fun h => e (hi _ _ h)), ih]
   simp [e]
theorem idsD_at {lit : K → Lit} (hi : ∀ a b, lit a = lit b → a = b) (hk : ∀ a, WideAt.IsKeyLit (lit a)) (k : K) (z : DataW Unit) : ∀ l : List K, k ∈ l → l.Nodup → (idsD lit l).atKey (lit k) z = .lit (.int .i64 (l.idxOf k : Int)) := by
 apply snoc_ind
 ·intro h; cases h
 ·intro l k' ih hm hn
  rw [idsD_snoc]
  have hn' := List.nodup_append.1 hn
  by_cases e : k = k'
  ·subst e
   rw [Maps.atKey_put_same (idsD_isMap lit l) (hk k)]
   have hni : k ∉ l := fun h => hn'.2.2 k h k (by simp) rfl
   simp [List.idxOf_append, hni]
  ·rw [Maps.atKey_put_other (fun h => e (hi _ _ h))]
   have hm' : k ∈ l := by simpa [e] using hm
   rw [ih hm' hn'.1]
   simp [List.idxOf_append, hm']
end
section
variable {K : Type} [DecidableEq K] {P : Program} (w : World) {ops : Array Oper} {rest : List Oper} {o : Oper} {a : Act} {Q : Exit → Act → World → Prop}
theorem ids_look {lit : K → Lit} (hi : ∀ a b, lit a = lit b → a = b) (hk : ∀ a, WideAt.IsKeyLit (lit a)) {t k e : TypeId} {b n : Nat} {l : List K} (hown : w.ownsMap P k (plainElem P e) b n (idsD lit l)) (KK : Maps.Keyed P k) (ht : P.underlying t = some (.map k e)) (he : P.underlying e = some (.int .i64))
  (hz : (zeroValue e).run P w = .ok (.int .i64 0) w) (hn : l.Nodup) {key : Value} {x : K} (hkey : keyOf P k key = some (lit x)) :
  (Instr.lookup t (.map (some b)) key true).run P w = .ok (.tuple #[.int .i64 (if x ∈ l then (l.idxOf x : Int) else 0), .bool (decide (x ∈ l))]) w := by
 obtain ⟨v, ps, hrun, hv⟩ := hown.look_ok KK ht hz (plainElem_int he (by decide)) hkey
 rw [hrun, idsD_has hi hk]
 obtain ⟨c, rfl, hc, _⟩ := plainElem_int_inv he hv
 by_cases hx : x ∈ l
 ·rw [idsD_at hi hk x _ l hx hn] at hc
  simp only [Prod.mk.injEq, DataW.lit.injEq, Lit.int.injEq, true_and] at hc
  rw [if_pos hx, hc.1]
 ·have h0 : Maps.has (idsD lit l) (lit x) = false := by rw [idsD_has hi hk]; simp [hx]
  rw [Maps.atKey_of_not_has h0] at hc
  simp only [Prod.mk.injEq, DataW.lit.injEq, Lit.int.injEq, true_and] at hc
  rw [if_neg hx, hc.1]
theorem wpList_ids_look {lit : K → Lit} (hg : o.guard = none) (m x : Operand) (t : TypeId) (hop : o.op = Op.lookup t m x true) (hi : ∀ a b, lit a = lit b → a = b) (hk : ∀ a, WideAt.IsKeyLit (lit a)) {k e : TypeId} {b n : Nat} {l : List K} (KK : Maps.Keyed P k) (ht : P.underlying t = some (.map k e)) (he : P.underlying e = some (.int .i64))
  (hz : (zeroValue e).run P w = .ok (.int .i64 0) w) (hm : a.eval m = .map (some b)) (hown : w.ownsMap P k (plainElem P e) b n (idsD lit l)) (hn : l.Nodup) (key : Value) (y : K) (hx : a.eval x = key) (hkey : keyOf P k key = some (lit y)) (c : Int) (bb : Bool) (hc : (if y ∈ l then (l.idxOf y : Int) else 0) = c) (hbb : decide (y ∈ l) = bb)
  (hK : wpList P ops Q rest (a.put o.dst (.tuple #[.int .i64 c, .bool bb])) w) : wpList P ops Q (o :: rest) a w := by
 refine wpList_plain hg fun K' hK' => ?_
 have hrun := ids_look w hi hk hown KK ht he hz hn hkey
 rw [hc, hbb] at hrun
 unfold Oper.wp
 simp [execOp, hop, hm, hx, hrun, Result.andThen]
 exact hK' _ _ hK
omit [DecidableEq K] in
theorem wpList_ids_put {lit : K → Lit} (hg : o.guard = none) (m x v : Operand) (t : TypeId) (hop : o.op = Op.mapUpdate t m x v) {k e : TypeId} {b n : Nat} {l : List K} (KK : Maps.Keyed P k) (ht : P.underlying t = some (.map k e)) (he : P.underlying e = some (.int .i64))
  (hm : a.eval m = .map (some b)) (hown : w.ownsMap P k (plainElem P e) b n (idsD lit l)) (hn : n < maxLen) (key : Value) (y : K) (hx : a.eval x = key) (hkey : keyOf P k key = some (lit y)) (hv : a.eval v = .int .i64 (l.length : Int)) (hl : (l.length : Int) ≤ 9223372036854775807)
  (hK : ∀ w', w'.ownsMap P k (plainElem P e) b (n + 1) (idsD lit (l ++ [y])) → w.grownBy w' (some b) → wpList P ops Q rest (a.put o.dst undef) w') : wpList P ops Q (o :: rest) a w := by
 refine wpList_plain hg fun K' hK' => ?_
 obtain ⟨w', hrun, r1, r2⟩ := hown.update KK ht hn hkey (plainElem_int he (WalkArith.wf_i64 ⟨by omega, hl⟩))
 rw [← idsD_snoc] at r1
 unfold Oper.wp
 simp [execOp, hop, hm, hx, hv, hrun, Result.andThen]
 exact hK' _ _ (hK w' r1 r2)
end
end Go.Proofs.YtbkcllfgolmloaaDoor.X

namespace Go.Proofs.YtbkcllfgolmloaaDoor.X
open Go Go.RowKit Go.Proofs.YtbkcllfgolmloaaDoorW.PrintWords Go.Proofs.YtbkcllfgolmloaaDoorW.PrintLast Go.Proofs.YtbkcllfgolmloaaDoorW.PrintMore
set_option linter.unusedVariables false
set_option linter.unusedSimpArgs false
/-- A part: what is said of some blocks. -/
abbrev Part := (Nat → Prop) → World → Prop
structure POk (P : Part) : Prop where
 mono : ∀ {ok ok' : Nat → Prop} {W : World}, P ok W → (∀ k, ok k → ok' k) → P ok' W
 step : ∀ {ok : Nat → Prop} {W W1 : World}, P ok W → (∀ k, ok k → k < W.heap.size → W1.heap[k]? = W.heap[k]?) → P (fun k => ok k ∧ k < W.heap.size) W1
def rowP {α : Type} (d : Kd α) (e base : Nat) (v : Value) (xs : List α) : Part := fun ok W => d.R e W base ok v xs
def rowsP {α : Type} (d : Kd α) (e base : Nat) (v : Value) (xs : List α) : Part := fun ok W => Kd.S d e W base ok v xs
def blkP (g : Nat) (o : Obj) : Part := fun ok W => W.heap[g]? = some o ∧ ok g
theorem rowP_ok {α : Type} (d : Kd α) (e base : Nat) (v : Value) (xs : List α) : POk (rowP d e base v xs) :=
 ⟨fun h hk => Kd.R_mono h hk, fun h hm => Kd.R_step (Kd.R_mono (Kd.R_bound h) (fun k hk => ⟨hk.1, hk.2.2.1⟩)) (fun k hk hlt => hm k hk.1 hlt)⟩
theorem rowsP_ok {α : Type} (d : Kd α) (e base : Nat) (v : Value) (xs : List α) : POk (rowsP d e base v xs) :=
 ⟨fun h hk => Kd.S_mono h hk, fun h hm => Kd.S_step (Kd.S_mono (Kd.S_bound h) (fun k hk => ⟨hk.1, hk.2.2.1⟩)) (fun k hk hlt => hm k hk.1 hlt)⟩
theorem blkP_ok (g : Nat) (o : Obj) : POk (blkP g o) :=
 ⟨fun h hk => ⟨h.1, hk _ h.2⟩, fun h hm => ⟨(hm g h.2 (blk_lt h.1)).trans h.1, h.2, blk_lt h.1⟩⟩
/-- The parts with their numbers: own tells each block's number. -/
def Sep (own : Nat → Nat) (W : World) : List (Nat × Part) → Prop
 | [] => True
 | p :: ps => (POk p.2 ∧ p.2 (fun k => own k = p.1) W) ∧ Sep own W ps
section
variable {own : Nat → Nat} {W W1 : World} {ps : List (Nat × Part)} {t u i : Nat} {P P' : Part}
theorem Sep.get (h : Sep own W ps) (hi : ps[i]? = some (t, P)) : P (fun k => own k = t) W := by
 induction ps generalizing i with
 | nil => simp at hi
 | cons p ps ih =>
  cases i with
  | zero => simp at hi; subst hi; exact h.1.2
  | succ i => exact ih h.2 (by simpa using hi)
/-- What tag t has may change; there may be new blocks, of tag t. -/
theorem Sep.change (h : Sep own W ps) (hm : ∀ k, own k ≠ t → k < W.heap.size → W1.heap[k]? = W.heap[k]?) (ht : (ps.map Prod.fst).contains t = false) : Sep (retag own W.heap.size t) W1 ps := by
 induction ps with
 | nil => trivial
 | cons p ps ih =>
  simp only [List.map_cons, List.contains_cons, Bool.or_eq_false_iff] at ht
  have hne : p.1 ≠ t := fun e => by rw [e] at ht; simp at ht
  refine ⟨⟨h.1.1, h.1.1.mono (h.1.1.step h.1.2 (fun k hk hlt => hm k (by rw [hk]; exact hne) hlt)) (fun k hk => ?_)⟩, ih h.2 ht.2⟩
  rw [retag_lt hk.2]
  exact hk.1
theorem Sep.below (h : Sep own W ps) (hb : Below W.heap.size W W1) : Sep own W1 ps := by
 induction ps with
 | nil => trivial
 | cons p ps ih => exact ⟨⟨h.1.1, h.1.1.mono (h.1.1.step h.1.2 (fun k _ hlt => hb.block k hlt)) (fun k hk => hk.1)⟩, ih h.2⟩
theorem Sep.fresh (h : Sep own W ps) (hb : Below W.heap.size W W1) (ht : (ps.map Prod.fst).contains t = false) : Sep (retag own W.heap.size t) W1 ps :=
 h.change (fun k _ hlt => hb.block k hlt) ht
theorem Sep.snoc (h : Sep own W ps) (hok : POk P) (hP : P (fun k => own k = t) W) : Sep own W (ps ++ [(t, P)]) := by
 induction ps with
 | nil => exact ⟨⟨hok, hP⟩, trivial⟩
 | cons p ps ih => exact ⟨h.1, ih h.2⟩
/-- A new part, of new blocks. -/
theorem Sep.new (h : Sep own W ps) (hb : Below W.heap.size W W1) (hok : POk P) (hP : P (fun k => W.heap.size ≤ k) W1) (ht : (ps.map Prod.fst).contains t = false) : Sep (retag own W.heap.size t) W1 (ps ++ [(t, P)]) :=
 (h.fresh hb ht).snoc hok (hok.mono hP (fun _ hk => retag_ge hk))
theorem Sep.drop (h : Sep own W ps) (i : Nat) : Sep own W (ps.eraseIdx i) := by
 induction ps generalizing i with
 | nil => trivial
 | cons p ps ih =>
  cases i with
  | zero => exact h.2
  | succ i => exact ⟨h.1, ih h.2 i⟩
theorem Sep.rel (h : Sep own W ps) (f : Nat → Nat) (hf : ∀ p ∈ ps, f p.1 = p.1) : Sep (fun k => f (own k)) W ps := by
 induction ps with
 | nil => trivial
 | cons p ps ih =>
  refine ⟨⟨h.1.1, h.1.1.mono h.1.2 (fun k hk => ?_)⟩, ih h.2 (fun q hq => hf q (by simp [hq]))⟩
  show f (own k) = p.1
  rw [hk, hf p (by simp)]
/-- The numbers of blocks that are not there do not matter. -/
theorem Sep.under {own' : Nat → Nat} (h : Sep own W ps) (he : ∀ k, k < W.heap.size → own k = own' k) : Sep own' W ps := by
 induction ps with
 | nil => trivial
 | cons p ps ih => exact ⟨⟨h.1.1, h.1.1.mono (h.1.1.step h.1.2 (fun _ _ _ => rfl)) (fun k hk => by rw [← he k hk.2]; exact hk.1)⟩, ih h.2⟩
theorem contains_false {l : List Nat} {t : Nat} (h : l.contains t = false) : ∀ x ∈ l, x ≠ t := by
 intro x hx e
 subst e
 simp [hx] at h
/-- Part i is written (blocks of its tag alone, and new ones). -/
theorem Sep.put (h : Sep own W ps) (i : Nat) (hi : ps[i]? = some (t, P)) (hm : ∀ k, own k ≠ t → k < W.heap.size → W1.heap[k]? = W.heap[k]?) (hok : POk P') (hP : P' (fun k => retag own W.heap.size t k = t) W1) (hd : ((ps.eraseIdx i).map Prod.fst).contains t = false) :
  Sep (retag own W.heap.size t) W1 (ps.set i (t, P')) := by
 induction ps generalizing i with
 | nil => simp at hi
 | cons p ps ih =>
  cases i with
  | zero =>
   simp at hi
   subst hi
   exact ⟨⟨hok, hP⟩, h.2.change hm (by simpa using hd)⟩
  | succ i =>
   simp only [List.eraseIdx_cons_succ, List.map_cons, List.contains_cons, Bool.or_eq_false_iff] at hd
   refine ⟨(Sep.change (ps := [p]) ⟨h.1, trivial⟩ hm (by simpa using hd.1)).1, ih h.2 i (by simpa using hi) hd.2⟩
/-- .. and takes in blocks of tag u, which is nobody's any more. -/
theorem Sep.put2 (h : Sep own W ps) (i : Nat) (hi : ps[i]? = some (t, P)) (hm : ∀ k, own k ≠ t → k < W.heap.size → W1.heap[k]? = W.heap[k]?) (hok : POk P') (hP : P' (fun k => retag own W.heap.size t k = t ∨ retag own W.heap.size t k = u) W1) (hd : ((ps.eraseIdx i).map Prod.fst).contains t = false) (hu : (ps.map Prod.fst).contains u = false) :
  Sep (fun k => if retag own W.heap.size t k = u then t else retag own W.heap.size t k) W1 (ps.set i (t, P')) := by
 have htu : t ≠ u := contains_false hu t (List.mem_map.2 ⟨(t, P), List.mem_of_getElem? hi, rfl⟩)
 induction ps generalizing i with
 | nil => simp at hi
 | cons p ps ih =>
  simp only [List.map_cons, List.contains_cons, Bool.or_eq_false_iff] at hu
  have key : ∀ (qs : List (Nat × Part)), Sep own W qs → (qs.map Prod.fst).contains t = false → (qs.map Prod.fst).contains u = false → Sep (fun k => if retag own W.heap.size t k = u then t else retag own W.heap.size t k) W1 qs := by
   intro qs hq h1 h2
   refine (hq.change hm h1).rel (fun x => if x = u then t else x) (fun q hq' => ?_)
   rw [if_neg (contains_false h2 q.1 (List.mem_map_of_mem hq'))]
  cases i with
  | zero =>
   simp at hi
   subst hi
   refine ⟨⟨hok, hok.mono hP (fun k hk => ?_)⟩, key ps h.2 (by simpa using hd) hu.2⟩
   show (if retag own W.heap.size t k = u then t else retag own W.heap.size t k) = t
   rcases hk with hk | hk
   ·rw [hk, if_neg htu]
   ·rw [if_pos hk]
  | succ i =>
   simp only [List.eraseIdx_cons_succ, List.map_cons, List.contains_cons, Bool.or_eq_false_iff] at hd
   exact ⟨(key [p] ⟨h.1, trivial⟩ (by simpa using hd.1) (by simpa using hu.1)).1, ih h.2 i (by simpa using hi) hd.2 hu.2⟩
theorem same_grown {row : Option Nat} (hg : W.grownBy W1 row) (hr : ∀ k, row = some k → own k = t) : ∀ k, own k ≠ t → k < W.heap.size → W1.heap[k]? = W.heap[k]? :=
 fun k hk hlt => hg.block k hlt (fun e => hk (hr k e.symm))
theorem same_set {p : Addr} (hp : own p.block = t) (x : Value) : ∀ k, own k ≠ t → k < W.heap.size → (W.setCell p x).heap[k]? = W.heap[k]? :=
 fun k hk _ => Below.heap_setCell W p x k (fun e => hk (e ▸ hp))
end
section
variable {α : Type} {d : Kd α} {e base : Nat} {v : Value} {xs : List α} {W W1 : World} {own : Nat → Nat} {ps : List (Nat × Part)} {t i : Nat}
/-- An element of a row of numbers is stored. -/
theorem Sep.setInt {base : Nat} {e g n c : Nat} {xs : List Int} (h : Sep own W ps) (i : Nat) (hi : ps[i]? = some (t, rowP (Kd.int .i64) e base (.slice (some ⟨g, 0, none⟩) n c) xs)) (j x : Int) (hd : ((ps.eraseIdx i).map Prod.fst).contains t = false) :
  Sep own (W.setCell ⟨g, j.toNat, none⟩ (.int .i64 x)) (ps.set i (t, rowP (Kd.int .i64) e base (.slice (some ⟨g, 0, none⟩) n c) (xs.set j.toNat x))) := by
 have hR := h.get hi
 obtain ⟨rfl, -, -⟩ := Kd.R_reads' hR
 have hg : own g = t := hR.1 g rfl
 obtain ⟨hR2, -⟩ := Kd.R_put hR j x
 have hR3 : (Kd.int .i64).R e (W.setCell ⟨g, j.toNat, none⟩ (.int .i64 x)) base (fun k => retag own W.heap.size t k = t) (.slice (some ⟨g, 0, none⟩) xs.length c) (xs.set j.toNat x) := by
  have h_ := R_tag (s := t) hR2 t
  rwa [show (W.setCell ⟨g, j.toNat, none⟩ (.int .i64 x)).heap.size = W.heap.size by simp] at h_
 have h2 := h.put (W1 := W.setCell ⟨g, j.toNat, none⟩ (.int .i64 x)) i hi (P' := rowP (Kd.int .i64) e base (.slice (some ⟨g, 0, none⟩) xs.length c) (xs.set j.toNat x)) (same_set (p := ⟨g, j.toNat, none⟩) hg _) (rowP_ok _ _ _ _ _) hR3 hd
 exact h2.under (fun k hlt => by simp at hlt; exact retag_lt hlt)
end
theorem below_of_grown {W W1 : World} (hg : W.grownBy W1 none) : Below W.heap.size W W1 := ⟨hg.os, hg.tape, hg.output, hg.size, fun k hk => hg.block k hk (by simp)⟩
/-- A number stored in a row of numbers, and a cell read. -/
theorem Sep.int {own : Nat → Nat} {W : World} {ps : List (Nat × Part)} {t : Nat} {base e : Nat} {v : Value} {xs : List Int} (h : Sep own W ps) (i : Nat) (hi : ps[i]? = some (t, rowP (Kd.int .i64) e base v xs)) (j : Int) (h0 : 0 ≤ j) (h1 : j < (xs.length : Int)) :
  ∃ g c, v = .slice (some ⟨g, 0, none⟩) xs.length c ∧ W.cell? ⟨g, j.toNat, none⟩ = some (.int .i64 (rd xs j)) ∧ W.frozen? ⟨g, j.toNat, none⟩ = false := by
 have hR := h.get hi
 obtain ⟨g, c, rfl, _⟩ := Kd.R_form hR (by omega)
 obtain ⟨a, b⟩ := Kd.R_cell (0 : Int) hR j h0 h1
 exact ⟨g, c, rfl, a, b⟩
/-- An empty row, not nil. -/
theorem R_empty {α : Type} (d : Kd α) (e base : Nat) (W : World) (ok : Nat → Prop) (hb : base ≤ W.heap.size) (hok : ok W.heap.size) : d.R e (W.alloc (.cells #[] e)) base ok (.slice (some ⟨W.heap.size, 0, none⟩) 0 0) [] := by
 refine ⟨fun k hk => ?_, [], ?_, ?_⟩
 ·have : W.heap.size = k := by simpa [Value.ownBlock] using hk
  subst this
  exact hok
 ·have h2 := World.ownsRow_lit (base := base) (e := e) (size := d.sz) W #[] 0 hb (by simp [maxLen]) (by simp)
  simpa using h2
 ·exact ⟨by simp, fun j p hj => by simp at hj⟩
/-- A row was appended to. -/
theorem Sep.appended {α : Type} {d : Kd α} {e base : Nat} {v v1 : Value} {xs xs1 : List α} {W W1 : World} {own : Nat → Nat} {ps : List (Nat × Part)} {t : Nat} (h : Sep own W ps) (i : Nat) (hi : ps[i]? = some (t, rowP d e base v xs)) (ho : d.R e W1 base (fun k => retag own W.heap.size t k = t) v1 xs1) (hg : W.grownBy W1 v.ownBlock) (hd : ((ps.eraseIdx i).map Prod.fst).contains t = false) :
  Sep (retag own W.heap.size t) W1 (ps.set i (t, rowP d e base v1 xs1)) :=
 h.put i hi (same_grown hg (fun k hk => (h.get hi).1 k hk)) (rowP_ok d e base v1 xs1) ho hd
theorem Sep.rowTag {α : Type} {d : Kd α} {e base : Nat} {v : Value} {xs : List α} {W : World} {own : Nat → Nat} {ps : List (Nat × Part)} {t : Nat} (h : Sep own W ps) (i : Nat) (hi : ps[i]? = some (t, rowP d e base v xs)) : d.R e W base (fun k => retag own W.heap.size t k = t) v xs := R_tag (s := t) (h.get hi) t
/-- A cell of a block is stored. -/
theorem Sep.setBlk {own : Nat → Nat} {W : World} {ps : List (Nat × Part)} {t g T : Nat} {cs cs' : Array Value} (h : Sep own W ps) (i : Nat) (hi : ps[i]? = some (t, blkP g (.cells cs T (0, 0)))) (j : Nat) (v : Value) (hcs : cs.setIfInBounds j v = cs') (hd : ((ps.eraseIdx i).map Prod.fst).contains t = false) :
  Sep own (W.setCell ⟨g, j, none⟩ v) (ps.set i (t, blkP g (.cells cs' T (0, 0)))) := by
 obtain ⟨hb, hg⟩ := h.get hi
 have h2 := h.put (W1 := W.setCell ⟨g, j, none⟩ v) i hi (P' := blkP g (.cells cs' T (0, 0))) (same_set (p := ⟨g, j, none⟩) hg v) (blkP_ok _ _) ⟨by rw [← hcs]; exact blk_set hb j v, (retag_lt (blk_lt hb)).trans hg⟩ hd
 exact h2.under (fun k hlt => by simp at hlt; exact retag_lt hlt)
/-- A row was put behind rows: its blocks (tag u) are the rows' now. -/
theorem Sep.appendedRows {α : Type} {d : Kd α} {e base : Nat} {v v1 : Value} {xs xs1 : List α} {W W1 : World} {own : Nat → Nat} {ps : List (Nat × Part)} {t u : Nat} (h : Sep own W ps) (i : Nat) (hi : ps[i]? = some (t, rowsP d e base v xs)) (ho : Kd.S d e W1 base (fun k => retag own W.heap.size t k = t ∨ retag own W.heap.size t k = u) v1 xs1) (hg : W.grownBy W1 v.ownBlock) (hd : ((ps.eraseIdx i).map Prod.fst).contains t = false) (hu : (ps.map Prod.fst).contains u = false) :
  Sep (fun k => if retag own W.heap.size t k = u then t else retag own W.heap.size t k) W1 (ps.set i (t, rowsP d e base v1 xs1)) :=
 h.put2 i hi (same_grown hg (fun k hk => (Kd.S_R (h.get hi)).1 k hk)) (rowsP_ok d e base v1 xs1) ho hd hu
theorem Sep.rowsTag {α : Type} {d : Kd α} {e base : Nat} {v : Value} {xs : List α} {W : World} {own : Nat → Nat} {ps : List (Nat × Part)} {t u : Nat} (h : Sep own W ps) (i : Nat) (hi : ps[i]? = some (t, rowsP d e base v xs)) (htu : t ≠ u) : Kd.S d e W base (fun k => (retag own W.heap.size t k = t ∨ retag own W.heap.size t k = u) ∧ ¬ retag own W.heap.size t k = u) v xs :=
 Kd.S_mono (S_tagged (s := t) (h.get hi) t) (fun k hk => ⟨Or.inl hk, by rw [hk]; exact htu⟩)
theorem Sep.rowTag2 {α : Type} {d : Kd α} {e base : Nat} {v : Value} {xs : List α} {W : World} {own : Nat → Nat} {ps : List (Nat × Part)} {t : Nat} (h : Sep own W ps) (i : Nat) (hi : ps[i]? = some (t, rowP d e base v xs)) (u : Nat) : d.R e W base (fun k => retag own W.heap.size u k = t) v xs := R_tag (s := t) (h.get hi) u
def rowAt (xs : List (List Int)) (a : Int) : List Int := xs.getD a.toNat []
theorem rows_cell {e e2 base : Nat} {W : World} {ok : Nat → Prop} {v : Value} {xs : List (List Int)} (h : Kd.S (Kd.slice e (Kd.int .i64)) e2 W base ok v xs) (a : Int) (a0 : 0 ≤ a) (a1 : a < (xs.length : Int)) :
  ∃ g c v2, v = .slice (some ⟨g, 0, none⟩) xs.length c ∧ W.cell? ⟨g, a.toNat, none⟩ = some v2 ∧ (∃ A2 c2, v2 = .slice A2 (rowAt xs a).length c2) ∧
   ∀ b : Int, 0 ≤ b → b < ((rowAt xs a).length : Int) → ∃ g2 c2, v2 = .slice (some ⟨g2, 0, none⟩) (rowAt xs a).length c2 ∧ W.cell? ⟨g2, b.toNat, none⟩ = some (.int .i64 (rd (rowAt xs a) b)) ∧ W.frozen? ⟨g2, b.toNat, none⟩ = false ∧ ok g2 ∧ base ≤ g2 ∧
    ∀ x : Int, Kd.S (Kd.slice e (Kd.int .i64)) e2 (W.setCell ⟨g2, b.toNat, none⟩ (.int .i64 x)) base ok v (xs.set a.toNat ((rowAt xs a).set b.toNat x)) := by
 obtain ⟨g, cap, hu, _⟩ := Kd.S_form h (by omega)
 subst hu
 obtain ⟨oki, c, hcl, hM, hcc, hoki, hH⟩ := Kd.S_lend h [] a a0 a1
 obtain ⟨vi, rfl, hR⟩ := hM
 have hx := hcc 0 _ rfl
 simp only [show (Kd.slice e (Kd.int .i64)).sz = 1 from rfl, Nat.mul_one, Nat.add_zero] at hx
 obtain ⟨Ai, ci, hvi⟩ := Kd.R_slice hR
 refine ⟨g, cap, vi, rfl, hx, ⟨Ai, ci, hvi⟩, fun b b0 b1 => ?_⟩
 obtain ⟨g2, c2, hv2, hb2, _⟩ := Kd.R_form hR (by show 0 < (rowAt xs a).length; omega)
 subst hv2
 obtain ⟨h1, h2⟩ := Kd.R_cell (0 : Int) hR b b0 b1
 have hg2 := hR.1 g2 rfl
 refine ⟨g2, c2, rfl, h1, h2, (hoki g2 hg2).1, hb2, fun x => ?_⟩
 obtain ⟨hR2, -⟩ := Kd.R_put hR b x
 have hR3 : (Kd.int .i64).R e (W.setCell ⟨g2, b.toNat, none⟩ (.int .i64 x)) base oki (.slice (some ⟨g2, 0, none⟩) ((rowAt xs a).set b.toNat x).length c2) ((rowAt xs a).set b.toNat x) := by
  rw [List.length_set]
  exact hR2
 refine Kd.H_back (x' := (rowAt xs a).set b.toNat x) (okp := oki) (Kd.H_step hH (fun k _ hn _ => Below.heap_setCell W _ _ k (fun e_ => hn (by rw [show k = g2 from e_]; exact hg2)))) ⟨_, ?_, hR3⟩ (fun k hk => hk)
 rw [List.length_set]
 rfl
theorem Sep.setRows {own : Nat → Nat} {W : World} {ps : List (Nat × Part)} {t base e e2 : Nat} {v : Value} {xs xs' : List (List Int)} (h : Sep own W ps) (i : Nat) (hi : ps[i]? = some (t, rowsP (Kd.slice e (Kd.int .i64)) e2 base v xs)) {p : Addr} {u : Value} (hp : own p.block = t) (hS : Kd.S (Kd.slice e (Kd.int .i64)) e2 (W.setCell p u) base (fun k => own k = t) v xs') (hd : ((ps.eraseIdx i).map Prod.fst).contains t = false) :
  Sep own (W.setCell p u) (ps.set i (t, rowsP (Kd.slice e (Kd.int .i64)) e2 base v xs')) := by
 have h3 : Kd.S (Kd.slice e (Kd.int .i64)) e2 (W.setCell p u) base (fun k => retag own W.heap.size t k = t) v xs' := by
  have h_ := S_tagged (s := t) hS t
  rwa [show (W.setCell p u).heap.size = W.heap.size by simp] at h_
 have h2 := h.put (W1 := W.setCell p u) i hi (P' := rowsP (Kd.slice e (Kd.int .i64)) e2 base v xs') (same_set hp u) (rowsP_ok _ _ _ _ _) h3 hd
 exact h2.under (fun k hlt => by simp at hlt; exact retag_lt hlt)
end Go.Proofs.YtbkcllfgolmloaaDoor.X

namespace Go.Proofs.YtbkcllfgolmloaaDoor.X
open Go Go.RowKit Go.Proofs.YtbkcllfgolmloaaDoorW.PrintWords Go.Proofs.YtbkcllfgolmloaaDoorW.PrintLast Go.Proofs.YtbkcllfgolmloaaDoorW.PrintMore
set_option linter.unusedVariables false
set_option linter.unusedSimpArgs false
/-- The state of 'grow': m, ids (of lm), the result's place, list, m.accept, m.next. -/
def GI (w W : World) (tapes : Int) (own : Nat → Nat) (v14 : Value) (l lm : List Int) (va : Value) (bs : List Bool) (vr : Value) (rs : List (List Int)) : Prop :=
 (W.heap[w.heap.size + 1]? = some (.cells #[.int .i64 tapes, .int .i64 0, va, vr] 74 (0, 0)) ∧ own (w.heap.size + 1) = 4) ∧
 (W.ownsMap Tryd.prog 3 (plainElem Tryd.prog 3) (w.heap.size + 2) lm.length (idsD (Lit.int .i64) lm) ∧ own (w.heap.size + 2) = 5) ∧
 (W.heap[w.heap.size]? = some (.cells #[.int .i64 0, .int .i64 0, .slice none 0 0, .slice none 0 0] 74 (0, 0)) ∧ own w.heap.size = 6) ∧
 (Kd.int .i64).R 3 W w.heap.size (fun k => own k = 1) v14 l ∧ Kd.bool.R 4 W w.heap.size (fun k => own k = 2) va bs ∧
 Kd.S (Kd.slice 3 (Kd.int .i64)) 77 W w.heap.size (fun k => own k = 3) vr rs ∧
 Below w.heap.size w W ∧ lm.Nodup ∧ (∀ x ∈ lm, inI64 x = true) ∧ lm.length ≤ 1048576
section
variable {w W W1 : World} {tapes : Int} {own : Nat → Nat} {v14 : Value} {l lm : List Int} {va : Value} {bs : List Bool} {vr : Value} {rs : List (List Int)}
theorem GI.below (h : GI w W tapes own v14 l lm va bs vr rs) (hb : Below W.heap.size W W1) : GI w W1 tapes own v14 l lm va bs vr rs := by
 obtain ⟨⟨h1, h2⟩, ⟨h3, h4⟩, ⟨h5, h6⟩, h7, h8, h9, h10, h11⟩ := h
 exact ⟨⟨blk_below h1 hb, h2⟩, ⟨map_below h3 hb, h4⟩, ⟨blk_below h5 hb, h6⟩, Kd.R_below h7 hb, Kd.R_below h8 hb, Kd.S_below h9 hb, below_then h10 h10.size hb, h11⟩
/-- Another row (number t, none of these) was written. -/
theorem GI.other (h : GI w W tapes own v14 l lm va bs vr rs) {row : Option Nat} {t : Nat} (hg : W.grownBy W1 row) (hr : ∀ k, row = some k → retag own W.heap.size t k = t) (hb : Below w.heap.size w W1) (ht : 6 < t) : GI w W1 tapes (retag own W.heap.size t) v14 l lm va bs vr rs := by
 obtain ⟨h1, h3, h5, h7, h8, h9, h10, h11⟩ := h
 exact ⟨blk_otherT h1 hg hr (by omega), map_otherT h3 hg hr (by omega), blk_otherT h5 hg hr (by omega), R_otherT h7 hg hr (by omega), R_otherT h8 hg hr (by omega), S_otherT h9 hg hr (by omega), hb, h11⟩
/-- A new state was put into the map. -/
theorem GI.put (h : GI w W tapes own v14 l l va bs vr rs) {x : Int} (hx : x ∉ l) (hi : inI64 x = true) (hl : l.length < 1048576) (hm : W1.ownsMap Tryd.prog 3 (plainElem Tryd.prog 3) (w.heap.size + 2) (l.length + 1) (idsD (Lit.int .i64) (l ++ [x]))) (hg : W.grownBy W1 (some (w.heap.size + 2))) :
  GI w W1 tapes (retag own W.heap.size 5) v14 l (l ++ [x]) va bs vr rs ∧ ∀ k, some (w.heap.size + 2) = some k → retag own W.heap.size 5 k = 5 := by
 obtain ⟨h1, h3, h5, h7, h8, h9, h10, hn, hin, hlen⟩ := h
 have e : retag own W.heap.size 5 (w.heap.size + 2) = 5 := by rw [retag_lt h3.1.lt]; exact h3.2
 have hr : ∀ k, some (w.heap.size + 2) = some k → retag own W.heap.size 5 k = 5 := by
  intro k hk
  injection hk with hk
  subst hk
  exact e
 refine ⟨⟨blk_otherT h1 hg hr (by omega), ⟨by simpa using hm, e⟩, blk_otherT h5 hg hr (by omega), R_otherT h7 hg hr (by omega), R_otherT h8 hg hr (by omega), S_otherT h9 hg hr (by omega), h10.grown hg h10.size (fun k hk => by injection hk with hk; omega), ?_, ?_, by simp; omega⟩, hr⟩
 ·refine List.nodup_append.2 ⟨hn, by simp, fun a ha b hb => ?_⟩
  simp at hb
  subst hb
  exact fun he => hx (he ▸ ha)
 ·intro y hy
  rcases List.mem_append.1 hy with hy | hy
  ·exact hin y hy
  ·simp at hy
   subst hy
   exact hi
/-- .. and behind the list. -/
theorem GI.push (h : GI w W tapes own v14 l lm va bs vr rs) {v1 : Value} {l1 : List Int} (hR : (Kd.int .i64).R 3 W1 w.heap.size (fun k => retag own W.heap.size 1 k = 1) v1 l1) (hb : Below w.heap.size w W1) (hg : W.grownBy W1 v14.ownBlock) : GI w W1 tapes (retag own W.heap.size 1) v1 l1 lm va bs vr rs := by
 obtain ⟨h1, h3, h5, h7, h8, h9, h10, h11⟩ := h
 have hr := R_rowT h7
 exact ⟨blk_otherT h1 hg hr (by omega), map_otherT h3 hg hr (by omega), blk_otherT h5 hg hr (by omega), hR, R_otherT h8 hg hr (by omega), S_otherT h9 hg hr (by omega), hb, h11⟩
/-- m.accept was appended to (not yet stored back): m's own block, still. -/
theorem GI.box (h : GI w W tapes own v14 l lm va bs vr rs) (hg : W.grownBy W1 va.ownBlock) : W1.heap[w.heap.size + 1]? = some (.cells #[.int .i64 tapes, .int .i64 0, va, vr] 74 (0, 0)) := by
 obtain ⟨h1, h3, h5, h7, h8, h9, h10, h11⟩ := h
 exact (blk_otherT h1 hg (R_rowT h8) (by omega)).1
theorem GI.acc (h : GI w W tapes own v14 l lm va bs vr rs) {v1 : Value} {bs1 : List Bool} (hR : Kd.bool.R 4 W1 w.heap.size (fun k => retag own W.heap.size 2 k = 2) v1 bs1) (hb : Below w.heap.size w W1) (hg : W.grownBy W1 va.ownBlock) : GI w (W1.setCell ⟨w.heap.size + 1, 2, none⟩ v1) tapes (retag own W.heap.size 2) v14 l lm v1 bs1 vr rs := by
 obtain ⟨h1, h3, h5, h7, h8, h9, h10, h11⟩ := h
 have hr := R_rowT h8
 have b1 := blk_otherT h1 hg hr (by omega)
 have b0 := blk_otherT h5 hg hr (by omega)
 have bm := map_otherT h3 hg hr (by omega)
 have ne : ∀ s k, s ≠ 4 → retag own W.heap.size 2 k = s → k ≠ w.heap.size + 1 := fun s k hs hk he => hs (by rw [← hk, he, b1.2])
 refine ⟨⟨by simpa using blk_set b1.1 2 v1, b1.2⟩, ⟨bm.1.setCell (by simp) _, bm.2⟩, ⟨blk_far b0.1 (by simp) _, b0.2⟩, Kd.R_far (p := ⟨w.heap.size + 1, 2, none⟩) (R_otherT h7 hg hr (by omega)) (fun k hk => ne 1 k (by omega) hk) _, Kd.R_far (p := ⟨w.heap.size + 1, 2, none⟩) hR (fun k hk => ne 2 k (by omega) hk) _, Kd.S_far (p := ⟨w.heap.size + 1, 2, none⟩) (S_otherT h9 hg hr (by omega)) (fun k hk => ne 3 k (by omega) hk) _, hb.setCell (by simp) _, h11⟩
/-- The row was put behind m.next, and m.next stored back. -/
def merge73 (f : Nat → Nat) : Nat → Nat := fun k => if f k = 7 then 3 else f k
theorem GI.boxN (h : GI w W tapes own v14 l lm va bs vr rs) (hg : W.grownBy W1 vr.ownBlock) : W1.heap[w.heap.size + 1]? = some (.cells #[.int .i64 tapes, .int .i64 0, va, vr] 74 (0, 0)) := by
 obtain ⟨h1, h3, h5, h7, h8, h9, h10, h11⟩ := h
 exact (blk_otherT h1 hg (S_rowT h9) (by omega)).1
theorem GI.nxt (h : GI w W tapes own v14 l lm va bs vr rs) {v1 : Value} {rs1 : List (List Int)} (hR : Kd.S (Kd.slice 3 (Kd.int .i64)) 77 W1 w.heap.size (fun k => retag own W.heap.size 3 k = 3 ∨ retag own W.heap.size 3 k = 7) v1 rs1) (hb : Below w.heap.size w W1) (hg : W.grownBy W1 vr.ownBlock) : GI w (W1.setCell ⟨w.heap.size + 1, 3, none⟩ v1) tapes (merge73 (retag own W.heap.size 3)) v14 l lm va bs v1 rs1 := by
 obtain ⟨h1, h3, h5, h7, h8, h9, h10, h11⟩ := h
 have hr := S_rowT h9
 have b1 := blk_otherT h1 hg hr (by omega)
 have b0 := blk_otherT h5 hg hr (by omega)
 have bm := map_otherT h3 hg hr (by omega)
 have ne : ∀ s k, s ≠ 4 → retag own W.heap.size 3 k = s → k ≠ w.heap.size + 1 := fun s k hs hk he => hs (by rw [← hk, he, b1.2])
 have mg : ∀ s k, s ≠ 7 → retag own W.heap.size 3 k = s → merge73 (retag own W.heap.size 3) k = s := fun s k hs hk => by simp [merge73, hk, hs]
 refine ⟨⟨by simpa using blk_set b1.1 3 v1, mg 4 _ (by omega) b1.2⟩, ⟨bm.1.setCell (by simp) _, mg 5 _ (by omega) bm.2⟩, ⟨blk_far b0.1 (by simp) _, mg 6 _ (by omega) b0.2⟩, Kd.R_mono (Kd.R_far (p := ⟨w.heap.size + 1, 3, none⟩) (R_otherT h7 hg hr (by omega)) (fun k hk => ne 1 k (by omega) hk) _) (fun k hk => mg 1 k (by omega) hk), Kd.R_mono (Kd.R_far (p := ⟨w.heap.size + 1, 3, none⟩) (R_otherT h8 hg hr (by omega)) (fun k hk => ne 2 k (by omega) hk) _) (fun k hk => mg 2 k (by omega) hk), Kd.S_mono (Kd.S_far (p := ⟨w.heap.size + 1, 3, none⟩) hR (fun k hk => hk.elim (ne 3 k (by omega)) (ne 7 k (by omega))) _) (fun k hk => hk.elim (fun h => mg 3 k (by omega) h) (fun h => by simp [merge73, h])), hb.setCell (by simp) _, h11⟩
end
theorem infoG77 : (Tryd.prog.info? 77).map (fun i => (i.zero, i.size, i.bytes)) = some (some (.slice none 0 0), 1, 24) := by kernel_rfl
theorem zero_int (w : World) : (zeroValue 3).run Tryd.prog w = .ok (.int .i64 0) w := by kernel_rfl
theorem lit_inj (a b : Int) (h : Lit.int .i64 a = Lit.int .i64 b) : a = b := by injection h
theorem lit_key (a : Int) : WideAt.IsKeyLit (Lit.int .i64 a) := trivial
def GrowPost (w : World) (tapes : Int) (bs : List Bool) (rs : List (List Int)) (e : Ending) (w' : World) : Prop :=
 ∃ va vr, e = .returned (.tuple #[.agg #[.int .i64 tapes, .int .i64 0, va, vr], .bool true]) ∧ Kd.bool.R 4 w' w.heap.size (fun _ => True) va bs ∧ Kd.S (Kd.slice 3 (Kd.int .i64)) 77 w' w.heap.size (fun _ => True) vr rs ∧ Below w.heap.size w w'
theorem gi_at {w W : World} {tapes : Int} {own : Nat → Nat} {v14 : Value} {l lm : List Int} {va : Value} {bs : List Bool} {vr : Value} {rs : List (List Int)} (h : GI w W tapes own v14 l lm va bs vr rs) {i : Nat} {k : Int} (hk : l[i]? = some k) :
  ∃ g c, v14 = .slice (some ⟨g, 0, none⟩) l.length c ∧ W.cell? ⟨g, i, none⟩ = some (.int .i64 k) := by
 obtain ⟨_, _, _, h7, _⟩ := h
 have hi : i < l.length := (List.getElem?_eq_some_iff.1 hk).1
 obtain ⟨g, cap, hv, _⟩ := Kd.R_form h7 (by omega)
 subst hv
 obtain ⟨_, _, hC⟩ := Kd.R_reads' h7
 obtain ⟨ad, e, hx⟩ := Kd.at_int hC (i : Int) (by omega) (by omega)
 injection e with e
 subst e
 refine ⟨g, cap, rfl, ?_⟩
 rw [add_plain] at hx
 simp only [Int.toNat_natCast] at hx
 rw [hx]
 simp [rd, List.getD_eq_getElem?_getD, hk]
theorem gi_start {w w1 : World} {tapes start : Int} (hs : inI64 start = true)
  (hown : w1.ownsMap Tryd.prog 3 (plainElem Tryd.prog 3) (w.heap.size + 1 + 1) (0 + 1) (DataW.put (.map [] : DataW Unit) (.int .i64 start) (.lit (.int .i64 0))))
  (hg : World.grownBy (((w.alloc (.cells #[.int .i64 0, .int .i64 0, .slice none 0 0, .slice none 0 0] 74)).alloc (.cells #[.int .i64 tapes, .int .i64 0, .slice none 0 0, .slice none 0 0] 74)).alloc (.map #[] 0)) w1 (some (w.heap.size + 1 + 1))) :
  GI w (w1.alloc (.cells #[.int .i64 start] 3)) tapes (fun k => if k = w.heap.size + 1 then 4 else if k = w.heap.size + 2 then 5 else if k = w.heap.size then 6 else 1) (.slice (some ⟨w1.heap.size, 0, none⟩) 1 1) [start] [start] (.slice none 0 0) [] (.slice none 0 0) [] := by
 have hsz : w.heap.size + 3 ≤ w1.heap.size := by have := hg.size; simp at this; omega
 have hB : Below w.heap.size w w1 := by
  refine Below.trans ((((Below.refl _ w).alloc (Nat.le_refl _) _).alloc (by simp) _).alloc (by simp; omega) _) ⟨hg.os, hg.tape, hg.output, hg.size, fun k hk => hg.block k (by simp; omega) (by simp; omega)⟩
 have hB2 := hB.alloc (by omega) (.cells #[.int .i64 start] 3)
 have h1 : w1.heap[w.heap.size + 1]? = some (.cells #[.int .i64 tapes, .int .i64 0, .slice none 0 0, .slice none 0 0] 74 (0, 0)) := by
  rw [hg.block _ (by simp) (by simp)]
  exact blk_alloc (by have := blk_new (w.alloc (.cells #[.int .i64 0, .int .i64 0, .slice none 0 0, .slice none 0 0] 74)) (.cells #[.int .i64 tapes, .int .i64 0, .slice none 0 0, .slice none 0 0] 74); simpa using this) _
 have h0 : w1.heap[w.heap.size]? = some (.cells #[.int .i64 0, .int .i64 0, .slice none 0 0, .slice none 0 0] 74 (0, 0)) := by
  rw [hg.block _ (by simp; omega) (by simp; omega)]
  exact blk_alloc (blk_alloc (blk_new w _) _) _
 refine ⟨⟨blk_alloc h1 _, by simp⟩, ⟨?_, by simp⟩, ⟨blk_alloc h0 _, by simp⟩, ?_, Kd.R_nil _ _ _ _ _, Kd.S_nil _ _ _ _ _, hB2, by simp, by simpa using hs, by simp⟩
 ·have := hown.alloc (.cells #[.int .i64 start] 3)
  simpa [idsD] using this
 ·exact R_one (d := Kd.int .i64) w1 start [.int .i64 start] _ rfl rfl (by omega) (by show (if w1.heap.size = _ then _ else _) = 1; rw [if_neg (by omega), if_neg (by omega), if_neg (by omega)])
set_option maxHeartbeats 4000000 in
set_option maxRecDepth 100000 in
theorem grow_int_calls {acc : Int → Option Bool} {next : Int → Int → Option Int} {W : Nat} {na nn : FuncId} {ca cn : Array Value} {tapes start : Int} {kw f : Nat} {as1 : List Bool} {rs1 : List (List Int)} (w : World)
  (hA : CloOK Tryd.prog w na ca (fun x : Int => #[.int .i64 x]) acc Value.bool) (hN : CloOK Tryd.prog w nn cn (fun x : Int × Int => #[.int .i64 x.1, .int .i64 x.2]) (fun x => next x.1 x.2) (Value.int .i64))
  (hw : impl_widthOf.f kw tapes = some (W : Int)) (hW : W ≤ 1000) (hs : inI64 start = true) (h : growL inI64 acc next W f [start] [] [] = some (as1, rs1)) :
  Calls Tryd.prog 117 #[.int .i64 tapes, .int .i64 start, .int .i64 0, .func (.func na) #[] ca, .func (.func nn) #[] cn] w (GrowPost w tapes as1 rs1) := by
 have HA := Aside0.mk hA
 have HN := Aside0.mk hN
 have HW := Aside0.mk hw
 have HH := Aside0.mk h
 have HS := Aside0.mk hs
 clear hA hN hw h hs
 have hmm := @run_makeMap Tryd.prog
 have hown0 : (((w.alloc (.cells #[.int .i64 0, .int .i64 0, .slice none 0 0, .slice none 0 0] 74)).alloc (.cells #[.int .i64 tapes, .int .i64 0, .slice none 0 0, .slice none 0 0] 74)).alloc (.map #[] 0)).ownsMap Tryd.prog 3 (plainElem Tryd.prog 3) (w.heap.size + 1 + 1) 0 (.map [] : DataW Unit) := made_at _ (by simp)
 obtain ⟨w1, hrun, hown1, hg1⟩ := hown0.update (Maps.int_keyed Tryd.underlying3) Tryd.underlying147 (by unfold maxLen; omega) (key := .int .i64 start) (val := .int .i64 0) (Maps.keyOf_int_mk Tryd.underlying3 (inI64_wf HS.out)) (plainElem_int Tryd.underlying3 (by decide))
 have HO1 := Aside0.mk hown1
 have HG1 := Aside0.mk hg1
 clear hown0 hown1 hg1
 obtain ⟨fa, ha1, ha2, ha3⟩ := HA.out.fn
 obtain ⟨fb, hb1, hb2, hb3⟩ := HN.out.fn
 have hea := fun args W' => enters_ (P := Tryd.prog) ha1 ha2 ha3 args W'
 have heb := fun args W' => enters_ (P := Tryd.prog) hb1 hb2 hb3 args W'
 clear ha1 ha2 ha3 hb1 hb2 hb3
 go_enter Tryd.func117, Tryd.ntmps117
 go_wp2
 have HI := Aside0.mk (gi_start HS.out HO1.out HG1.out)
 clear HO1 HG1 hmm hrun
 generalize w1.alloc _ = W0 at HI ⊢
 generalize (Value.slice (some { block := w1.heap.size, off := 0 }) 1 1) = v0 at HI ⊢
 go_loopg [14, 15] f (fun kq v14 v15 w' => ∃ (own : Nat → Nat) (l : List Int) (va : Value) (bs : List Bool) (vr : Value) (rs : List (List Int)), v15 = .int .i64 (bs.length : Int) ∧ Aside0 (GI w w' tapes own v14 l l va bs vr rs) ∧ Aside0 (growL inI64 acc next W kq l bs rs = some (as1, rs1)) ∧ Aside0 (rs.length = bs.length))
 case atStart => exact ⟨_, [start], .slice none 0 0, [], .slice none 0 0, [], by simp, HI, HH, ⟨by simp⟩⟩
 case round =>
  clear HI HH
  obtain ⟨own, l, va, bs, vr, rs, rfl, HI, HL, HRL⟩ := hrel
  cases gk with
  | zero => exact absurd HL.out (by simp [growL])
  | succ k1 =>
   have H := HL.out
   clear HL
   simp only [growL] at H
   cases hk : l[bs.length]? with
   | none =>
    rw [hk] at H
    obtain ⟨rfl, rfl⟩ := Prod.mk.inj (Option.some.inj H)
    have hle : l.length ≤ bs.length := List.getElem?_eq_none_iff.1 hk
    clear H hk
    obtain ⟨⟨b1, -⟩, -, ⟨b0, -⟩, r14, rva, rvr, hB, -⟩ := HI.out
    obtain ⟨A14, c14, rfl⟩ := Kd.R_slice r14
    obtain ⟨Aa, cva, rfl⟩ := Kd.R_slice rva
    obtain ⟨An, cvr, rfl⟩ := Kd.S_slice rvr
    have c1 : decide ((bs.length : Int) < (l.length : Int)) = false := decide_eq_false (by omega)
    have c2 : decide (bs.length < l.length) = false := decide_eq_false (by omega)
    have RA := Aside0.mk rva
    have RN := Aside0.mk rvr
    have HB := Aside0.mk hB
    have B0 := Aside0.mk b0
    have m0 : wr.cell? ⟨w.heap.size + 1, 0, none⟩ = some (.int .i64 tapes) := (blk_cell b1 0).trans rfl
    have m1 : wr.cell? ⟨w.heap.size + 1, 1, none⟩ = some (.int .i64 0) := (blk_cell b1 1).trans rfl
    have m2 : wr.cell? ⟨w.heap.size + 1, 2, none⟩ = some (.slice Aa bs.length cva) := (blk_cell b1 2).trans rfl
    have m3 : wr.cell? ⟨w.heap.size + 1, 3, none⟩ = some (.slice An rs.length cvr) := (blk_cell b1 3).trans rfl
    have n0 : wr.cell? ⟨w.heap.size, 0, none⟩ = some (.int .i64 0) := (blk_cell b0 0).trans rfl
    have n1 : wr.cell? ⟨w.heap.size, 1, none⟩ = some (.int .i64 0) := (blk_cell b0 1).trans rfl
    have n2 : wr.cell? ⟨w.heap.size, 2, none⟩ = some (.slice none 0 0) := (blk_cell b0 2).trans rfl
    have n3 : wr.cell? ⟨w.heap.size, 3, none⟩ = some (.slice none 0 0) := (blk_cell b0 3).trans rfl
    have f0 := blk_frozen b0 0
    have f1 := blk_frozen b0 1
    have f2 := blk_frozen b0 2
    have f3 := blk_frozen b0 3
    clear r14 rva rvr hB b1 b0 HI hle
    go_wp2
    refine bodyPost_ret (v := .tuple #[.agg #[.int .i64 tapes, .int .i64 0, .slice Aa bs.length cva, .slice An rs.length cvr], .bool true]) (by simp [results, Tryd.results117, go_sem, n0, n1, n2, n3]) rfl ⟨_, _, rfl, ?_, ?_, ?_⟩
    ·exact Kd.R_mono (R_set4 RA.out B0.out (by decide) _ _ _ _) (fun _ _ => trivial)
    ·exact Kd.S_mono (S_set4 RN.out B0.out (by decide) _ _ _ _) (fun _ _ => trivial)
    ·exact below_set4 HB.out (Nat.le_refl _) _ _ _ _
   | some k =>
    rw [hk] at H
    simp only [] at H
    obtain ⟨⟨l1, row1⟩, hrow, H⟩ := Option.bind_eq_some_iff.mp H
    obtain ⟨a1, hacc, H⟩ := Option.bind_eq_some_iff.mp H
    obtain ⟨g, c14, rfl, hcell⟩ := gi_at HI.out hk
    have hlt : bs.length < l.length := (List.getElem?_eq_some_iff.1 hk).1
    have c1 : decide ((bs.length : Int) < (l.length : Int)) = true := decide_eq_true (by omega)
    have c2 : decide (bs.length < l.length) = true := decide_eq_true (by omega)
    have HR := Aside0.mk hrow
    have HC := Aside0.mk hacc
    have HG := Aside0.mk H
    clear H hrow hacc hk
    go_wp2
    go_loopg [14, 17, 18] W (fun kq v14 v17 v18 w' => ∃ (own : Nat → Nat) (l' : List Int) (row : List Int) (c : Nat), v18 = .int .i64 (c : Int) ∧ Aside0 (c + kq = W) ∧ Aside0 (GI w w' tapes own v14 l' l' va bs vr rs ∧ (Kd.int .i64).R 3 w' w.heap.size (fun k => own k = 7) v17 row) ∧ Aside0 (growRow inI64 (next k) kq (c : Int) l' row = some (l1, row1)) ∧ Aside0 (row.length = c ∧ bs.length ≤ l'.length ∧ bs.length < l'.length))
    case atStart => exact ⟨own, l, [], 0, by simp, ⟨by omega⟩, ⟨HI.out, Kd.R_nil _ _ _ _ _⟩, ⟨HR.out⟩, ⟨rfl, by omega, hlt⟩⟩
    case round =>
     clear HI HR hcell c1 c2 hlt
     obtain ⟨own, l', row, c, rfl, HCW, HI2, HR2, HN2⟩ := hrel
     cases gk with
     | zero =>
      have e := HR2.out
      simp only [growRow] at e
      obtain ⟨rfl, rfl⟩ := Prod.mk.inj (Option.some.inj e)
      have hcw := HCW.out
      have c1 : decide ((c : Int) < (W : Int)) = false := decide_eq_false (by omega)
      have c2 : decide (c < W) = false := decide_eq_false (by omega)
      clear e HR2 hcw
      go_wp2_with (first | (go_at_call 96; (with_reducible refine (impl_widthOf.calls kw tapes (W : Int) _ HW.out).mono ?_); rintro e w' ⟨rfl, ⟨nd, rfl⟩⟩))
      have HI3 := Aside0.mk ((HI2.out.1.below (pw_below_drewN (Below.refl _ _) nd)).below (below_drew (Below.refl _ _)))
      have HR3 := Aside0.mk (Kd.R_below (Kd.R_below HI2.out.2 (pw_below_drewN (Below.refl _ _) nd)) (below_drew (Below.refl _ _)))
      obtain ⟨Aa, cva, hva⟩ := Kd.R_slice HI3.out.2.2.2.2.1
      subst hva
      have hS : (wr.drewN nd).drew.cell? ⟨w.heap.size + 1, 2, none⟩ = some (.slice Aa bs.length cva) := (blk_cell HI3.out.1.1 2).trans rfl
      clear HI2
      refine start_ (n := 9) (S := fun w' => w'.cell? ⟨w.heap.size + 1, 2, none⟩ = some (.slice Aa bs.length cva)) (ds := [8]) #[false, false, false, false, false, false, false, false, false] (by kernel_rfl) rfl rfl hS (fun hHeld => ?_)
      generalize (wr.drewN nd).drew = w3 at HI3 HR3 hS hHeld ⊢
      refine pure_ (i := 0) (N := some 79) (v := ?_) (a' := ?_) #[true, false, false, false, false, false, false, false, false] rfl rfl (by kernel_rfl) (fun _ _ _ h => h) (Or.inl ⟨by rfl, ?_⟩) ?_ ?_
      rotate_left
      ·intro w'
       go_simp
       with_reducible rfl
      rotate_left
      ·simp only [Act.put, List.setIfInBounds_toArray, List.set_cons_zero, List.set_cons_succ]
       rfl
      refine take_ (i := 1) (N := some 80) (v := ?_) (a' := ?_) #[true, true, false, false, false, false, false, false, false] rfl rfl (by kernel_rfl) (fun _ _ _ h => h) (Or.inl ⟨by rfl, ?_⟩) hHeld ?_ ?_
      rotate_left
      ·intro w' s0
       go_simp
       with_reducible rfl
      rotate_left
      ·simp only [Act.put, List.setIfInBounds_toArray, List.set_cons_zero, List.set_cons_succ]
       rfl
      refine pure_ (i := 2) (N := some 81) (v := ?_) (a' := ?_) #[true, true, true, false, false, false, false, false, false] rfl rfl (by kernel_rfl) (fun _ _ _ h => h) (Or.inl ⟨by rfl, ?_⟩) ?_ ?_
      rotate_left
      ·intro w'
       go_simp
       with_reducible rfl
      rotate_left
      ·simp only [Act.put, List.setIfInBounds_toArray, List.set_cons_zero, List.set_cons_succ]
       rfl
      refine pure_ (i := 3) (N := some 82) (v := ?_) (a' := ?_) #[true, true, true, true, false, false, false, false, false] rfl rfl (by kernel_rfl) (fun _ _ _ h => h) (Or.inl ⟨by rfl, ?_⟩) ?_ ?_
      rotate_left
      ·intro w'
       go_simp
       with_reducible rfl
      rotate_left
      ·simp only [Act.put, List.setIfInBounds_toArray, List.set_cons_zero, List.set_cons_succ]
       rfl
      refine one_ (i := 4) (N := some 83) #[true, true, true, true, true, false, false, false, false] rfl rfl (by kernel_rfl) (by decide) (fun K hK => ?_)
      obtain ⟨fa, ha1, ha2, ha3⟩ := HA.out.fn
      refine call_ na (#[.int .i64 k] ++ ca) (by rfl) rfl (runs_val ha1 ha2 ha3 _ rfl rfl (by (try simp only [List.map_toArray, List.map_cons, List.map_nil]); rfl)) ?_
      refine (HA.out.run k a1 w3 HI3.out.2.2.2.2.2.2.1 HC.out).mono ?_
      rintro e w4 ⟨rfl, hb4⟩
      refine ⟨_, rfl, ?_⟩
      have HI4 := Aside0.mk (HI3.out.below hb4)
      have HR4 := Aside0.mk (Kd.R_below HR3.out hb4)
      clear HI3 HR3 hS hHeld hb4
      refine hK.out _ _ ((blk_cell HI4.out.1.1 2).trans rfl) (fun hHeld => ?_)
      clear hK K
      refine norm_ (a' := ?_) ?_ ?_
      rotate_left
      ·show Act.put _ (some 83) _ = _
       simp only [Act.put, List.setIfInBounds_toArray, List.set_cons_zero, List.set_cons_succ]
       rfl
      refine one_ (i := 5) (N := some 84) #[true, true, true, true, true, true, false, false, false] rfl rfl (by kernel_rfl) (by decide) (fun K hK => ?_)
      refine value_ (v := .slice (some ⟨w4.heap.size, 0, none⟩) 1 1) (w1 := w4.alloc (.cells #[.bool a1] 4)) (by rfl) rfl ?_ ?_
      ·go_simp
      refine hK.out _ _ ((blk_cell (blk_alloc HI4.out.1.1 _) 2).trans rfl) (fun hHeld => ?_)
      clear hK K
      refine norm_ (a' := ?_) ?_ ?_
      rotate_left
      ·show Act.put _ (some 84) _ = _
       simp only [Act.put, List.setIfInBounds_toArray, List.set_cons_zero, List.set_cons_succ]
       rfl
      refine one_ (i := 6) (N := some 85) #[true, true, true, true, true, true, true, false, false] rfl rfl (by kernel_rfl) (by decide) (fun K hK => ?_)
      refine Kd.R_append_step Kd.bool (w0 := w) w.heap.size (by rfl) (.tmp 80) (.tmp 84) 22 4 (.bool false) 1 rfl Tryd.underlying22 info4 rfl (by decide) (by omega) (.slice Aa bs.length cva) bs a1 [.bool a1] (fun k => retag own w4.heap.size 2 k = 2) (fun _ => False) rfl rfl rfl (fun _ hk => hk.elim) (fun _ hk => retag_ge hk) (R_tag HI4.out.2.2.2.2.1 2) HI4.out.2.2.2.2.2.2.1 HI4.out.2.2.2.2.2.2.1.size (by have := HN2.out.2.1; have := HI4.out.2.2.2.2.2.2.2.2.2; omega) ?_
      intro v5 w5 ho hb hg hat
      obtain ⟨A5, c5, hv5⟩ := Kd.R_slice ho
      subst hv5
      have b5 := GI.box HI4.out hg
      have HI5 := Aside0.mk (GI.acc HI4.out ho hb hg)
      have HR5 := Aside0.mk (Kd.R_far (p := ⟨w.heap.size + 1, 2, none⟩) (R_otherT (t := 2) HR4.out hg (R_rowT HI4.out.2.2.2.2.1) (by omega)) (fun k hk he => by have := HI5.out.1.2; rw [he] at hk; simp only at hk; omega) (.slice A5 (bs ++ [a1]).length c5))
      have m5 : w5.cell? ⟨w.heap.size + 1, 2, none⟩ = some (.slice Aa bs.length cva) := (blk_cell b5 2).trans rfl
      have f5 := blk_frozen b5 2
      clear HI4 HR4 ho hb hg hat b5
      refine hK.out _ _ m5 (fun hHeld => ?_)
      clear hK K
      refine norm_ (a' := ?_) ?_ ?_
      rotate_left
      ·show Act.put _ (some 85) _ = _
       simp only [Act.put, List.setIfInBounds_toArray, List.set_cons_zero, List.set_cons_succ]
       rfl
      refine one_ (i := 7) (N := some 86) #[true, true, true, true, true, true, true, true, false] rfl rfl (by kernel_rfl) (by decide) (fun K hK => ?_)
      refine value_ (v := .pointer (some ⟨w.heap.size + 1, 2, none⟩)) (w1 := w5) (by rfl) rfl ?_ ?_
      ·go_simp
      refine hK.out _ _ m5 (fun hHeld => ?_)
      clear hK K
      refine norm_ (a' := ?_) ?_ ?_
      rotate_left
      ·show Act.put _ (some 86) _ = _
       simp only [Act.put, List.setIfInBounds_toArray, List.set_cons_zero, List.set_cons_succ]
       rfl
      refine last_ (i := 8) (N := none) #[true, true, true, true, true, true, true, true, true] rfl rfl (by kernel_rfl) (by decide) (fun K hK => ?_)
      refine skip_ (w1 := w5.setCell ⟨w.heap.size + 1, 2, none⟩ (.slice A5 (bs ++ [a1]).length c5)) (by rfl) rfl ?_ ?_
      ·go_simp
      refine hK.out _ _ ?_
      clear hK K
      refine done_ (by kernel_rfl) ?_
      clear m5 f5 hHeld
      generalize w5.setCell _ _ = w6 at HI5 HR5 ⊢
      obtain ⟨An, cvr, hvr⟩ := Kd.S_slice HI5.out.2.2.2.2.2.1
      subst hvr
      obtain ⟨Ar, cr, hr17⟩ := Kd.R_slice HR5.out
      subst hr17
      have m3 : w6.cell? ⟨w.heap.size + 1, 3, none⟩ = some (.slice An rs.length cvr) := (blk_cell HI5.out.1.1 3).trans rfl
      have hrl : row.length < 1000000 := by have := HN2.out.1; have := HCW.out; omega
      go_wp2_with (first | ((with_reducible refine gate_builtin (b := .append) (xs := #[.tmp 88, .tmp 90]) rfl ?_); at_builtin; refine Kd.S_append (Kd.slice 3 (Kd.int .i64)) (w0 := w) w.heap.size rfl (.tmp 88) (.tmp 90) 72 77 (.slice none 0 0) 24 rfl Tryd.underlying72 infoG77 rfl (by decide) (by omega) (.slice An rs.length cvr) rs row [.slice Ar row.length cr] (fun k => retag (retag own w4.heap.size 2) w6.heap.size 3 k = 3 ∨ retag (retag own w4.heap.size 2) w6.heap.size 3 k = 7) (fun k => retag (retag own w4.heap.size 2) w6.heap.size 3 k = 7) rfl rfl ?aP ?aK ?aF ?aO ?aB ?aS ?aL ?_; (case aP => exact ⟨_, rfl, R_tag HR5.out 3⟩); (case aK => intro k hk; exact ⟨Or.inr hk, fun he => by have := S_rowT HI5.out.2.2.2.2.2.1 k he.symm; omega⟩); (case aF => exact (fun _ hk => Or.inl (retag_ge hk))); (case aO => exact Kd.S_mono (S_tagged HI5.out.2.2.2.2.2.1 3) (fun k hk => ⟨Or.inl hk, by omega⟩)); (case aB => exact HI5.out.2.2.2.2.2.2.1); (case aS => exact HI5.out.2.2.2.2.2.2.1.size); (case aL => have := HN2.out.2.1; have := HI5.out.2.2.2.2.2.2.2.2.2; have := HRL.out; omega); intro v7 w7 ho hb hg hat; obtain ⟨A7, c7, hv7⟩ := Kd.S_slice ho; subst hv7; have b7 := GI.boxN HI5.out hg; have HI6 := Aside0.mk (GI.nxt HI5.out ho hb hg); have m7 : w7.cell? ⟨w.heap.size + 1, 3, none⟩ = some (.slice An rs.length cvr) := (blk_cell b7 3).trans rfl; have f7 := blk_frozen b7 3; clear HI5 HR5 ho hb hg hat b7 m3))
      go_roundg k1
      case measure => omega
      case rel =>
       have q1 := HN2.out.2.1
       have q2 := HI6.out.2.2.2.2.2.2.2.2.2
       exact ⟨_, l', _, bs ++ [a1], _, rs ++ [row], by rw [show (bs ++ [a1]).length = bs.length + 1 by simp, show wrap64 ((bs.length : Int) + 1) = (bs.length : Int) + 1 by unfold wrap64; omega]; rfl, by have h_ := HI6; rw [show (rs ++ [row]).length = rs.length + 1 by simp] at h_; exact h_, ⟨by have h_ := HG.out; simpa using h_⟩, ⟨by have := HRL.out; simp; omega⟩⟩
     | succ k2 =>
      have H := HR2.out
      simp only [growRow] at H
      obtain ⟨x, hnx, H⟩ := Option.bind_eq_some_iff.mp H
      have hcw := HCW.out
      have c1 : decide ((c : Int) < (W : Int)) = true := decide_eq_true (by omega)
      have c2 : decide (c < W) = true := decide_eq_true (by omega)
      have b1 : c < 1000 := by omega
      clear hcw HR2
      by_cases hg : inI64 x = true
      ·rw [if_pos hg] at H
       have HX := Aside0.mk hg
       have HNX := Aside0.mk hnx
       clear hg hnx
       obtain ⟨A14, c14', hv14⟩ := Kd.R_slice HI2.out.1.2.2.2.1
       subst hv14
       by_cases hm : x ∈ l'
       ·rw [if_pos hm] at H
        have HM := Aside0.mk hm
        have H' := Aside0.mk H
        clear hm H
        go_wp2_with (first | (go_at_call 96; (with_reducible refine (impl_widthOf.calls kw tapes (W : Int) _ HW.out).mono ?_); rintro e w' ⟨rfl, ⟨nd, rfl⟩⟩))
        refine (HN.out.run (k, (c : Int)) x _ ?hB HNX.out).mono ?_
        case hB => exact pw_below_drewN HI2.out.1.2.2.2.2.2.2.1 _
        rintro e w2 ⟨rfl, hb2⟩
        have HI3 := Aside0.mk ((HI2.out.1.below (pw_below_drewN (Below.refl _ _) nd)).below hb2)
        have HR3 := Aside0.mk (Kd.R_below (Kd.R_below HI2.out.2 (pw_below_drewN (Below.refl _ _) nd)) hb2)
        clear hb2 HI2
        go_wp2_with (first | (at_lookup; refine wpList_ids_look _ rfl _ _ 147 rfl lit_inj lit_key (Maps.int_keyed Tryd.underlying3) Tryd.underlying147 Tryd.underlying3 (zero_int _) rfl HI3.out.2.1.1 HI3.out.2.2.2.2.2.2.2.1 _ x rfl (Maps.keyOf_int_mk Tryd.underlying3 (inI64_wf HX.out)) _ true (if_pos HM.out) (decide_eq_true HM.out) ?_) | ((with_reducible refine gate_builtin (b := .append) (xs := #[.tmp 75, .tmp 77]) rfl ?_); at_builtin; refine Kd.R_append (Kd.int .i64) (w0 := w) w.heap.size rfl (.tmp 75) (.tmp 77) 77 3 (.int .i64 0) 8 rfl Tryd.underlying77 info3 rfl (by decide) (by omega) u17 row ((l'.idxOf x : Nat) : Int) [.int .i64 ((l'.idxOf x : Nat) : Int)] (fun k => retag own w2.heap.size 7 k = 7) (fun _ => False) rfl rfl ?aP (fun _ hk => hk.elim) ?aF ?aO ?aB ?aS ?aL ?_; (case aP => exact rfl); (case aB => exact HI3.out.2.2.2.2.2.2.1); (case aF => exact (fun _ hk => retag_ge hk)); (case aO => exact R_tag HR3.out 7); (case aS => exact HI3.out.2.2.2.2.2.2.1.size); (case aL => have := HN2.out.1; omega); intro v5 w5 ho hb hg hat; have n0_ := Aside0.mk (GI.other HI3.out hg (R_rowT HR3.out) hb (by omega)); have n1_ := Aside0.mk ho; clear HI3 HR3 ho hb hg hat))
        go_roundg k2
        case measure => omega
        case rel => exact ⟨retag own w2.heap.size 7, l', row ++ [((l'.idxOf x : Nat) : Int)], c + 1, by go_num, ⟨by have := HCW.out; omega⟩, ⟨n0_.out, n1_.out⟩, ⟨by have h_ := H'.out; rwa [show (c : Int) + 1 = ((c + 1 : Nat) : Int) by omega] at h_⟩, ⟨by simp [HN2.out.1], HN2.out.2⟩⟩
       ·rw [if_neg hm] at H
        by_cases hl : l'.length < 1048576
        ·rw [if_pos hl] at H
         have HM := Aside0.mk hm
         have HL2 := Aside0.mk hl
         have H' := Aside0.mk H
         clear hm H
         go_wp2_with (first | (go_at_call 96; (with_reducible refine (impl_widthOf.calls kw tapes (W : Int) _ HW.out).mono ?_); rintro e w' ⟨rfl, ⟨nd, rfl⟩⟩))
         refine (HN.out.run (k, (c : Int)) x _ ?hB HNX.out).mono ?_
         case hB => exact pw_below_drewN HI2.out.1.2.2.2.2.2.2.1 _
         rintro e w2 ⟨rfl, hb2⟩
         have HI3 := Aside0.mk ((HI2.out.1.below (pw_below_drewN (Below.refl _ _) nd)).below hb2)
         have HR3 := Aside0.mk (Kd.R_below (Kd.R_below HI2.out.2 (pw_below_drewN (Below.refl _ _) nd)) hb2)
         clear hb2 HI2
         go_wp2_with (first | (at_lookup; refine wpList_ids_look _ rfl _ _ 147 rfl lit_inj lit_key (Maps.int_keyed Tryd.underlying3) Tryd.underlying147 Tryd.underlying3 (zero_int _) rfl HI3.out.2.1.1 HI3.out.2.2.2.2.2.2.2.1 _ x rfl (Maps.keyOf_int_mk Tryd.underlying3 (inI64_wf HX.out)) _ false (if_neg HM.out) (decide_eq_false HM.out) ?_) | (at_mapUpdate; refine wpList_ids_put _ rfl _ _ _ 147 rfl (Maps.int_keyed Tryd.underlying3) Tryd.underlying147 Tryd.underlying3 rfl HI3.out.2.1.1 ?uM _ x rfl (Maps.keyOf_int_mk Tryd.underlying3 (inI64_wf HX.out)) rfl ?uL ?_; (case uM => unfold maxLen; omega); (case uL => omega); intro w3 hown3 hg3; have hq := GI.put HI3.out HM.out HX.out HL2.out hown3 hg3; have HI4 := Aside0.mk hq.1; have HR4 := Aside0.mk (R_otherT (t := 5) HR3.out hg3 hq.2 (by omega)); clear HI3 HR3 hq hown3 hg3) | ((with_reducible refine gate_builtin (b := .append) (xs := #[.tmp 62, .tmp 64]) rfl ?_); at_builtin; refine Kd.R_append (Kd.int .i64) (w0 := w) w.heap.size rfl (.tmp 62) (.tmp 64) 77 3 (.int .i64 0) 8 rfl Tryd.underlying77 info3 rfl (by decide) (by omega) (.slice A14 l'.length c14') l' x [.int .i64 x] (fun k => retag (retag own w2.heap.size 5) w3.heap.size 1 k = 1) (fun _ => False) rfl rfl ?aP (fun _ hk => hk.elim) ?aF ?aO ?aB ?aS ?aL ?_; (case aP => exact rfl); (case aB => exact HI4.out.2.2.2.2.2.2.1); (case aF => exact (fun _ hk => retag_ge hk)); (case aO => exact R_tag HI4.out.2.2.2.1 1); (case aS => exact HI4.out.2.2.2.2.2.2.1.size); (case aL => omega); intro v4 w4 ho hb hg hat; have HI5 := Aside0.mk (GI.push HI4.out ho hb hg); have HR5 := Aside0.mk (R_otherT (t := 1) HR4.out hg (R_rowT HI4.out.2.2.2.1) (by omega)); clear HI4 HR4 ho hb hg hat) | ((with_reducible refine gate_builtin (b := .append) (xs := #[.tmp 75, .tmp 77]) rfl ?_); at_builtin; refine Kd.R_append (Kd.int .i64) (w0 := w) w.heap.size rfl (.tmp 75) (.tmp 77) 77 3 (.int .i64 0) 8 rfl Tryd.underlying77 info3 rfl (by decide) (by omega) u17 row (l'.length : Int) [.int .i64 (l'.length : Int)] (fun k => retag (retag (retag own w2.heap.size 5) w3.heap.size 1) w4.heap.size 7 k = 7) (fun _ => False) rfl rfl ?aP (fun _ hk => hk.elim) ?aF ?aO ?aB ?aS ?aL ?_; (case aP => exact rfl); (case aB => exact HI5.out.2.2.2.2.2.2.1); (case aF => exact (fun _ hk => retag_ge hk)); (case aO => exact R_tag HR5.out 7); (case aS => exact HI5.out.2.2.2.2.2.2.1.size); (case aL => have := HN2.out.1; omega); intro v5 w5 ho hb hg hat; have n0_ := Aside0.mk (GI.other HI5.out hg (R_rowT HR5.out) hb (by omega)); have n1_ := Aside0.mk ho; clear HI5 HR5 ho hb hg hat))
         go_roundg k2
         case measure => omega
         case rel => exact ⟨_, l' ++ [x], row ++ [(l'.length : Int)], c + 1, by go_num, ⟨by have := HCW.out; omega⟩, ⟨n0_.out, n1_.out⟩, ⟨by have h_ := H'.out; rwa [show (c : Int) + 1 = ((c + 1 : Nat) : Int) by omega] at h_⟩, ⟨by simp [HN2.out.1], by have := HN2.out.2; simp; omega⟩⟩
        ·rw [if_neg hl] at H
         cases H
      ·rw [if_neg hg] at H
       cases H
end Go.Proofs.YtbkcllfgolmloaaDoor.X

namespace Go.Proofs.YtbkcllfgolmloaaDoor.X
open Go Go.RowKit Go.Proofs.YtbkcllfgolmloaaDoorW.PrintWords Go.Proofs.YtbkcllfgolmloaaDoorW.PrintLast Go.Proofs.YtbkcllfgolmloaaDoorW.PrintMore
set_option linter.unusedVariables false
set_option linter.unusedSimpArgs false
/-- A machine in memory, and its rows. -/
def MachAt (W : World) (g : Nat) (tapes start : Int) (ac : List Bool) (ns : List (List Int)) : Prop :=
 ∃ Aa ca An cn, W.heap[g]? = some (.cells #[.int .i64 tapes, .int .i64 start, .slice Aa ac.length ca, .slice An ns.length cn] 74 (0, 0)) ∧ Kd.C Kd.bool W Aa ac.length ac ∧ Kd.C (Kd.slice 3 (Kd.int .i64)) W An ns.length ns
/-- A variable that holds a row of numbers. -/
def VarAt (W : World) (g : Nat) (l : List Int) : Prop :=
 ∃ A c, W.heap[g]? = some (.cells #[.slice A l.length c] 77 (0, 0)) ∧ Kd.C (Kd.int .i64) W A l.length l
theorem MachAt.below {W W1 : World} {g : Nat} {tapes start : Int} {ac : List Bool} {ns : List (List Int)} (h : MachAt W g tapes start ac ns) (hb : Below W.heap.size W W1) : MachAt W1 g tapes start ac ns := by
 obtain ⟨Aa, ca, An, cn, h1, h2, h3⟩ := h
 exact ⟨Aa, ca, An, cn, blk_below h1 hb, Kd.C_below h2 hb, Kd.C_below h3 hb⟩
theorem VarAt.below {W W1 : World} {g : Nat} {l : List Int} (h : VarAt W g l) (hb : Below W.heap.size W W1) : VarAt W1 g l := by
 obtain ⟨A, c, h1, h2⟩ := h
 exact ⟨A, c, blk_below h1 hb, Kd.C_below h2 hb⟩
def accM (one : List Int) (ac : List Bool) (x : Int) : Option Bool := if 0 ≤ x then (if x < (one.length : Int) then (if 0 ≤ rd one x then (if rd one x < (ac.length : Int) then some (rdOf false ac (rd one x)) else none) else none) else none) else none
set_option maxHeartbeats 4000000 in
set_option maxRecDepth 100000 in
theorem merged1_clo {w : World} {gm go : Nat} {tapes start : Int} {ac : List Bool} {ns : List (List Int)} {one : List Int} (hm : MachAt w gm tapes start ac ns) (ho : VarAt w go one) :
  CloOK Tryd.prog w 166 #[.pointer (some ⟨gm, 0, none⟩), .pointer (some ⟨go, 0, none⟩)] (fun x : Int => #[.int .i64 x]) (accM one ac) Value.bool := by
 refine ⟨⟨_, Tryd.func166, by kernel_rfl, rfl⟩, fun x r W hb h => ?_⟩
 obtain ⟨Aa, ca, An, cn, b1, hC1, hC2⟩ := hm.below hb
 obtain ⟨Ao, co, b2, hCo⟩ := ho.below hb
 clear hm ho hb
 unfold accM at h
 by_cases p0 : 0 ≤ x
 ·rw [if_pos p0] at h
  by_cases q0 : x < (one.length : Int)
  ·rw [if_pos q0] at h
   by_cases p1 : 0 ≤ rd one x
   ·rw [if_pos p1] at h
    by_cases q1 : rd one x < (ac.length : Int)
    ·rw [if_pos q1] at h
     obtain rfl := Option.some.inj h
     clear h
     obtain ⟨ad1, e1, hx1⟩ := Kd.at_int hCo x p0 q0
     obtain ⟨ad2, e2, hx2⟩ := Kd.at_bool hC1 (rd one x) p1 q1
     subst e1
     subst e2
     have m2 : W.cell? ⟨gm, 2, none⟩ = some (.slice (some ad2) ac.length ca) := (blk_cell b1 2).trans rfl
     have v0 : W.cell? ⟨go, 0, none⟩ = some (.slice (some ad1) one.length co) := (blk_cell b2 0).trans rfl
     replace p0 := eq_true p0
     replace q0 := eq_true q0
     replace p1 := eq_true p1
     replace q1 := eq_true q1
     clear b1 b2 hC1 hC2 hCo
     go_enter Tryd.func166, Tryd.ntmps166
     go_wp2
     repeat (go_quiet (fail); try go_wp2)
     go_ret
     exact ⟨rfl, by repeat (first | exact Below.refl _ _ | apply pw_below_drewN | apply below_drew1)⟩
    ·rw [if_neg q1] at h
     cases h
   ·rw [if_neg p1] at h
    cases h
  ·rw [if_neg q0] at h
   cases h
 ·rw [if_neg p0] at h
  cases h
def rdR (xs : List (List Int)) (i : Int) : List Int := xs.getD i.toNat []
theorem at_rows {e : TypeId} {w : World} {A : Option Addr} {n : Nat} {xs : List (List Int)} (h : Kd.C (Kd.slice e (Kd.int .i64)) w A n xs) (i : Int) (h0 : 0 ≤ i) (h1 : i < n) : ∃ ad A0 c0, A = some ad ∧ w.cell? (ad.add i.toNat) = some (.slice A0 (rdR xs i).length c0) ∧ (rdR xs i).length ≤ c0 ∧ (Kd.int .i64).C w A0 (rdR xs i).length (rdR xs i) := by
 obtain ⟨ad, c, e', _, ⟨A0, c0, rfl, hl, hC⟩, hc⟩ := Kd.C_get h [] i h0 h1
 have := hc 0 _ rfl
 rw [show i.toNat * (Kd.slice e (Kd.int .i64)).sz + 0 = i.toNat by simp [show (Kd.slice e (Kd.int .i64)).sz = 1 from rfl]] at this
 exact ⟨ad, A0, c0, e', this, hl, hC⟩
/-- A bounds-checked read. -/
def at1 {α : Type} (d : α) (xs : List α) (i : Int) : Option α := if 0 ≤ i ∧ i < (xs.length : Int) then some (rdOf d xs i) else none
def nextM (group one : List Int) (ns : List (List Int)) (g c : Int) : Option Int :=
 (at1 0 one g).bind fun i => (at1 [] ns i).bind fun row => (at1 0 row c).bind fun j => at1 0 group j
theorem at1_some {α : Type} {d : α} {xs : List α} {i : Int} {r : α} (h : at1 d xs i = some r) : 0 ≤ i ∧ i < (xs.length : Int) ∧ r = rdOf d xs i := by
 unfold at1 at h
 split at h
 ·next hc => exact ⟨hc.1, hc.2, (Option.some.inj h).symm⟩
 ·cases h
set_option maxHeartbeats 4000000 in
set_option maxRecDepth 100000 in
theorem merged2_clo {w : World} {gm go gg : Nat} {tapes start : Int} {ac : List Bool} {ns : List (List Int)} {one group : List Int} (hm : MachAt w gm tapes start ac ns) (ho : VarAt w go one) (hg : VarAt w gg group) :
  CloOK Tryd.prog w 167 #[.pointer (some ⟨gg, 0, none⟩), .pointer (some ⟨gm, 0, none⟩), .pointer (some ⟨go, 0, none⟩)] (fun x : Int × Int => #[.int .i64 x.1, .int .i64 x.2]) (fun x => nextM group one ns x.1 x.2) (Value.int .i64) := by
 refine ⟨⟨_, Tryd.func167, by kernel_rfl, rfl⟩, fun x r W hb h => ?_⟩
 obtain ⟨Aa, ca, An, cn, b1, hC1, hC2⟩ := hm.below hb
 obtain ⟨Ao, co, b2, hCo⟩ := ho.below hb
 obtain ⟨Ag, cg, b3, hCg⟩ := hg.below hb
 clear hm ho hg hb
 obtain ⟨x, c⟩ := x
 have h' : nextM group one ns x c = some r := h
 clear h
 obtain ⟨i, h1, h⟩ := Option.bind_eq_some_iff.mp h'
 obtain ⟨row, h2, h⟩ := Option.bind_eq_some_iff.mp h
 obtain ⟨j, h3, h4⟩ := Option.bind_eq_some_iff.mp h
 clear h' h
 obtain ⟨p0, q0, ei⟩ := at1_some h1
 obtain ⟨p1, q1, er⟩ := at1_some h2
 obtain ⟨p2, q2, ej⟩ := at1_some h3
 obtain ⟨p3, q3, eo⟩ := at1_some h4
 clear h1 h2 h3 h4
 obtain ⟨ad1, e1, hx1⟩ := Kd.at_int hCo x p0 q0
 obtain ⟨ad2, A2, c2, e2, hx2, hl2, hC3⟩ := at_rows hC2 i p1 q1
 rw [show rdR ns i = row from er.symm] at hx2 hl2 hC3
 obtain ⟨ad3, e3, hx3⟩ := Kd.at_int hC3 c p2 q2
 obtain ⟨ad4, e4, hx4⟩ := Kd.at_int hCg j p3 q3
 subst e1
 subst e2
 subst e3
 subst e4
 rw [show rd one x = i from ei.symm] at hx1
 rw [show rd row c = j from ej.symm] at hx3
 rw [show rd group j = r from eo.symm] at hx4
 have m3 : W.cell? ⟨gm, 3, none⟩ = some (.slice (some ad2) ns.length cn) := (blk_cell b1 3).trans rfl
 have v0 : W.cell? ⟨go, 0, none⟩ = some (.slice (some ad1) one.length co) := (blk_cell b2 0).trans rfl
 have v1 : W.cell? ⟨gg, 0, none⟩ = some (.slice (some ad4) group.length cg) := (blk_cell b3 0).trans rfl
 clear b1 b2 b3 hC1 hC2 hC3 hCo hCg ei er ej eo
 replace p0 := eq_true p0
 replace q0 := eq_true q0
 replace p1 := eq_true p1
 replace q1 := eq_true q1
 replace p2 := eq_true p2
 replace q2 := eq_true q2
 replace p3 := eq_true p3
 replace q3 := eq_true q3
 show Calls Tryd.prog 167 #[.int .i64 x, .int .i64 c, .pointer (some ⟨gg, 0, none⟩), .pointer (some ⟨gm, 0, none⟩), .pointer (some ⟨go, 0, none⟩)] W fun e W' => e = .returned (.int .i64 r) ∧ Below W.heap.size W W'
 go_enter Tryd.func167, Tryd.ntmps167
 go_wp2
 repeat (go_quiet (fail); try go_wp2)
 go_ret
 exact ⟨rfl, by repeat (first | exact Below.refl _ _ | apply pw_below_drewN | apply below_drew1)⟩
def accT (ac : List Bool) (p : Int × Int) : Option Bool := if 0 ≤ p.2 then at1 false ac p.1 else some false
set_option maxHeartbeats 4000000 in
set_option maxRecDepth 100000 in
theorem tidy1_clo {w : World} {gm : Nat} {tapes start : Int} {ac : List Bool} {ns : List (List Int)} (hm : MachAt w gm tapes start ac ns) :
  CloOK Tryd.prog w 146 #[.pointer (some ⟨gm, 0, none⟩)] (fun x : Int × Int => #[.agg #[.int .i64 x.1, .int .i64 x.2]]) (accT ac) Value.bool := by
 refine ⟨⟨_, Tryd.func146, by kernel_rfl, rfl⟩, fun x r W hb h => ?_⟩
 obtain ⟨Aa, ca, An, cn, b1, hC1, hC2⟩ := hm.below hb
 clear hm hb
 obtain ⟨s, p⟩ := x
 have h' : (if 0 ≤ p then at1 false ac s else some false) = some r := h
 clear h
 show Calls Tryd.prog 146 #[.agg #[.int .i64 s, .int .i64 p], .pointer (some ⟨gm, 0, none⟩)] W fun e W' => e = .returned (.bool r) ∧ Below W.heap.size W W'
 by_cases c : 0 ≤ p
 ·rw [if_pos c] at h'
  obtain ⟨p0, q0, e0⟩ := at1_some h'
  obtain ⟨ad1, e1, hx1⟩ := Kd.at_bool hC1 s p0 q0
  subst e1
  rw [show rdOf false ac s = r from e0.symm] at hx1
  have m2 : W.cell? ⟨gm, 2, none⟩ = some (.slice (some ad1) ac.length ca) := (blk_cell b1 2).trans rfl
  have m2' : (W.alloc (.cells #[.int .i64 s, .int .i64 p] 151)).cell? ⟨gm, 2, none⟩ = some (.slice (some ad1) ac.length ca) := pw_cell_below (below_alloc (Below.refl _ _) _) m2
  have hx1' : (W.alloc (.cells #[.int .i64 s, .int .i64 p] 151)).cell? (ad1.add s.toNat) = some (.bool r) := pw_cell_below (below_alloc (Below.refl _ _) _) hx1
  clear m2 hx1
  have c1 : decide (p ≥ 0) = true := decide_eq_true c
  have c2 : decide (0 ≤ p) = true := decide_eq_true c
  clear b1 hC1 hC2 h' e0 c
  replace p0 := eq_true p0
  replace q0 := eq_true q0
  go_enter Tryd.func146, Tryd.ntmps146
  go_wp2
  repeat (go_quiet (fail); try go_wp2)
  go_ret
  exact ⟨rfl, by repeat (first | exact Below.refl _ _ | apply below_alloc | apply pw_below_drewN | apply below_drew1)⟩
 ·rw [if_neg c] at h'
  obtain rfl := Option.some.inj h'
  have c1 : decide (p ≥ 0) = false := decide_eq_false c
  have c2 : decide (0 ≤ p) = false := decide_eq_false c
  clear b1 hC1 hC2 h' c
  go_enter Tryd.func146, Tryd.ntmps146
  go_wp2
  repeat (go_quiet (fail); try go_wp2)
  go_ret
  exact ⟨rfl, by repeat (first | exact Below.refl _ _ | apply below_alloc | apply pw_below_drewN | apply below_drew1)⟩
def nextT (pads : List Int) (ns : List (List Int)) (x : Int × Int) (c : Int) : Option (Int × Int) :=
 if x.2 < 0 then some (0, -1) else (at1 0 pads c).bind fun pc => if bits .andNot .i64 x.2 pc = 0 then ((at1 [] ns x.1).bind fun row => (at1 0 row c).bind fun q => some (q, pc)) else some (0, -1)
set_option maxHeartbeats 4000000 in
set_option maxRecDepth 100000 in
theorem tidy2_clo {w : World} {gm gp : Nat} {tapes start : Int} {ac : List Bool} {ns : List (List Int)} {pads : List Int} (hm : MachAt w gm tapes start ac ns) (hp : VarAt w gp pads) :
  CloOK Tryd.prog w 147 #[.pointer (some ⟨gp, 0, none⟩), .pointer (some ⟨gm, 0, none⟩)] (fun x : (Int × Int) × Int => #[.agg #[.int .i64 x.1.1, .int .i64 x.1.2], .int .i64 x.2]) (fun x => nextT pads ns x.1 x.2) (fun r : Int × Int => .agg #[.int .i64 r.1, .int .i64 r.2]) := by
 refine ⟨⟨_, Tryd.func147, by kernel_rfl, rfl⟩, fun x r W hb h => ?_⟩
 obtain ⟨Aa, ca, An, cn, b1, hC1, hC2⟩ := hm.below hb
 obtain ⟨Ap, cp, b2, hCp⟩ := hp.below hb
 clear hm hp hb
 obtain ⟨⟨s, p⟩, c⟩ := x
 have h' : nextT pads ns (s, p) c = some r := h
 clear h
 unfold nextT at h'
 show Calls Tryd.prog 147 #[.agg #[.int .i64 s, .int .i64 p], .int .i64 c, .pointer (some ⟨gp, 0, none⟩), .pointer (some ⟨gm, 0, none⟩)] W fun e W' => e = .returned (.agg #[.int .i64 r.1, .int .i64 r.2]) ∧ Below W.heap.size W W'
 have HW : ∀ n, Below W.heap.size W (((W.alloc (.cells #[.int .i64 s, .int .i64 p] 151)).alloc (.cells #[.int .i64 0, .int .i64 0] 151)).drewN n) := fun n => pw_below_drewN (((Below.refl _ W).alloc (Nat.le_refl _) _).alloc (by simp) _) n
 by_cases c0 : p < 0
 ·rw [if_pos c0] at h'
  obtain rfl := Option.some.inj h'
  have c1 : decide (p < 0) = true := decide_eq_true c0
  clear h' c0 b1 b2 hC1 hC2 hCp
  go_enter Tryd.func147, Tryd.ntmps147
  go_wp2
  repeat (go_quiet (fail); try go_wp2)
  refine bodyPost_ret (v := .agg #[.int .i64 0, .int .i64 (-1)]) (by simp [results, Tryd.results147, go_sem]) rfl ⟨rfl, ?_⟩
  exact ((HW _).setCell (by simp) _).setCell (by simp) _
 ·rw [if_neg c0] at h'
  have c1 : decide (p < 0) = false := decide_eq_false c0
  obtain ⟨pc, h1, h'⟩ := Option.bind_eq_some_iff.mp h'
  obtain ⟨p0, q0, e0⟩ := at1_some h1
  obtain ⟨ad4, e4, hx4⟩ := Kd.at_int hCp c p0 q0
  subst e4
  rw [show rd pads c = pc from e0.symm] at hx4
  clear h1 e0 c0
  generalize hWE : ((W.alloc (.cells #[.int .i64 s, .int .i64 p] 151)).alloc (.cells #[.int .i64 0, .int .i64 0] 151)) = WE at HW
  have hbE : Below W.heap.size W WE := by rw [← hWE]; exact ((Below.refl _ W).alloc (Nat.le_refl _) _).alloc (by simp) _
  have x4 : WE.cell? (ad4.add c.toNat) = some (.int .i64 pc) := pw_cell_below hbE hx4
  have v0 : WE.cell? ⟨gp, 0, none⟩ = some (.slice (some ad4) pads.length cp) := pw_cell_below hbE ((blk_cell b2 0).trans rfl)
  have k0 : WE.heap[W.heap.size]? = some (.cells #[.int .i64 s, .int .i64 p] 151 (0, 0)) := by rw [← hWE]; exact blk_alloc (blk_new W _) _
  have k1 : WE.heap[W.heap.size + 1]? = some (.cells #[.int .i64 0, .int .i64 0] 151 (0, 0)) := by rw [← hWE]; have q_ := blk_new (W.alloc (.cells #[.int .i64 s, .int .i64 p] 151)) (.cells #[.int .i64 0, .int .i64 0] 151); simpa using q_
  replace p0 := eq_true p0
  replace q0 := eq_true q0
  by_cases cz : bits .andNot .i64 p pc = 0
  ·rw [if_pos cz] at h'
   obtain ⟨row, h2, h'⟩ := Option.bind_eq_some_iff.mp h'
   obtain ⟨q, h3, h'⟩ := Option.bind_eq_some_iff.mp h'
   obtain rfl := Option.some.inj h'
   obtain ⟨p1, q1, e1⟩ := at1_some h2
   obtain ⟨p2, q2, e2⟩ := at1_some h3
   obtain ⟨ad2, A2, c2, e2', hx2, hl2, hC3⟩ := at_rows hC2 s p1 q1
   rw [show rdR ns s = row from e1.symm] at hx2 hl2 hC3
   obtain ⟨ad3, e3, hx3⟩ := Kd.at_int hC3 c p2 q2
   subst e2'
   subst e3
   rw [show rd row c = q from e2.symm] at hx3
   have m3 : WE.cell? ⟨gm, 3, none⟩ = some (.slice (some ad2) ns.length cn) := pw_cell_below hbE ((blk_cell b1 3).trans rfl)
   have x2 : WE.cell? (ad2.add s.toNat) = some (.slice (some ad3) row.length c2) := pw_cell_below hbE hx2
   have x3 : WE.cell? (ad3.add c.toNat) = some (.int .i64 q) := pw_cell_below hbE hx3
   have c3 : (bits .andNot .i64 p pc != 0) = false := bne_eq_false_iff_eq.mpr cz
   have y0 := (blk_cell k0 0).trans rfl
   replace y0 : WE.cell? ⟨W.heap.size, 0, none⟩ = some (.int .i64 s) := y0
   have y1 : WE.cell? ⟨W.heap.size, 1, none⟩ = some (.int .i64 p) := (blk_cell k0 1).trans rfl
   replace p1 := eq_true p1
   replace q1 := eq_true q1
   replace p2 := eq_true p2
   replace q2 := eq_true q2
   clear h2 h3 h' e1 e2 hl2 hx2 hx3 hx4 hC1 hC2 hC3 hCp b1 b2 cz
   go_enter Tryd.func147, Tryd.ntmps147
   go_wp2
   try rw [hWE]
   repeat (go_quiet (fail); try go_wp2)
   have hd : Below WE.heap.size WE ((WE.drewN nq).drew) := below_drew1 (pw_below_drewN (Below.refl _ _) nq)
   have HE := Aside0.mk (HW nq)
   have K1 := Aside0.mk (blk_below k1 hd)
   have HD := Aside0.mk (show Below W.heap.size W ((WE.drewN nq).drew) from below_drew1 (HW nq))
   refine start_ (n := 15) (S := fun w' => w'.cell? ⟨gm, 3, none⟩ = some (.slice (some ad2) ns.length cn) ∧ w'.cell? ⟨W.heap.size, 0, none⟩ = some (.int .i64 s) ∧ w'.cell? (ad2.add s.toNat) = some (.slice (some ad3) row.length c2) ∧ w'.cell? (ad3.add c.toNat) = some (.int .i64 q) ∧ w'.cell? ⟨gp, 0, none⟩ = some (.slice (some ad4) pads.length cp) ∧ w'.cell? (ad4.add c.toNat) = some (.int .i64 pc)) (ds := [14]) #[false, false, false, false, false, false, false, false, false, false, false, false, false, false, false] (by kernel_rfl) rfl rfl ⟨pw_cell_below hd m3, pw_cell_below hd y0, pw_cell_below hd x2, pw_cell_below hd x3, pw_cell_below hd v0, pw_cell_below hd x4⟩ (fun hHeld => ?_)
   clear hd m3 y0 y1 x2 x3 v0 x4 k0 k1 hWE HW HE hbE
   generalize (WE.drewN nq).drew = w3 at K1 HD hHeld ⊢
   refine pure_ (i := 0) (N := some 21) (v := ?_) (a' := ?_) #[true, false, false, false, false, false, false, false, false, false, false, false, false, false, false] rfl rfl (by kernel_rfl) (fun _ _ _ h => h) (Or.inl ⟨by rfl, ?_⟩) ?_ ?_
   rotate_left
   ·intro w'
    go_simp
    with_reducible rfl
   rotate_left
   ·simp only [Act.put, List.setIfInBounds_toArray, List.set_cons_zero, List.set_cons_succ]
    rfl
   refine take_ (i := 1) (N := some 22) (v := ?_) (a' := ?_) #[true, true, false, false, false, false, false, false, false, false, false, false, false, false, false] rfl rfl (by kernel_rfl) (fun _ _ _ h => h) (Or.inl ⟨by rfl, ?_⟩) hHeld ?_ ?_
   rotate_left
   ·rintro w' ⟨s0, s1, s2, s3, s4, s5⟩
    go_simp
    with_reducible rfl
   rotate_left
   ·simp only [Act.put, List.setIfInBounds_toArray, List.set_cons_zero, List.set_cons_succ]
    rfl
   refine pure_ (i := 2) (N := some 23) (v := ?_) (a' := ?_) #[true, true, true, false, false, false, false, false, false, false, false, false, false, false, false] rfl rfl (by kernel_rfl) (fun _ _ _ h => h) (Or.inl ⟨by rfl, ?_⟩) ?_ ?_
   rotate_left
   ·intro w'
    go_simp
    with_reducible rfl
   rotate_left
   ·simp only [Act.put, List.setIfInBounds_toArray, List.set_cons_zero, List.set_cons_succ]
    rfl
   refine take_ (i := 3) (N := some 24) (v := ?_) (a' := ?_) #[true, true, true, true, false, false, false, false, false, false, false, false, false, false, false] rfl rfl (by kernel_rfl) (fun _ _ _ h => h) (Or.inl ⟨by rfl, ?_⟩) hHeld ?_ ?_
   rotate_left
   ·rintro w' ⟨s0, s1, s2, s3, s4, s5⟩
    go_simp
    with_reducible rfl
   rotate_left
   ·simp only [Act.put, List.setIfInBounds_toArray, List.set_cons_zero, List.set_cons_succ]
    rfl
   refine pure_ (i := 4) (N := some 25) (v := ?_) (a' := ?_) #[true, true, true, true, true, false, false, false, false, false, false, false, false, false, false] rfl rfl (by kernel_rfl) (fun _ _ _ h => h) (Or.inl ⟨by rfl, ?_⟩) ?_ ?_
   rotate_left
   ·intro w'
    go_simp
    with_reducible rfl
   rotate_left
   ·simp only [Act.put, List.setIfInBounds_toArray, List.set_cons_zero, List.set_cons_succ]
    rfl
   refine take_ (i := 5) (N := some 26) (v := ?_) (a' := ?_) #[true, true, true, true, true, true, false, false, false, false, false, false, false, false, false] rfl rfl (by kernel_rfl) (fun _ _ _ h => h) (Or.inl ⟨by rfl, ?_⟩) hHeld ?_ ?_
   rotate_left
   ·rintro w' ⟨s0, s1, s2, s3, s4, s5⟩
    go_simp
    with_reducible rfl
   rotate_left
   ·simp only [Act.put, List.setIfInBounds_toArray, List.set_cons_zero, List.set_cons_succ]
    rfl
   refine pure_ (i := 6) (N := some 27) (v := ?_) (a' := ?_) #[true, true, true, true, true, true, true, false, false, false, false, false, false, false, false] rfl rfl (by kernel_rfl) (fun _ _ _ h => h) (Or.inl ⟨by rfl, ?_⟩) ?_ ?_
   rotate_left
   ·intro w'
    go_simp
    with_reducible rfl
   rotate_left
   ·simp only [Act.put, List.setIfInBounds_toArray, List.set_cons_zero, List.set_cons_succ]
    rfl
   refine pure_ (i := 7) (N := some 28) (v := ?_) (a' := ?_) #[true, true, true, true, true, true, true, true, false, false, false, false, false, false, false] rfl rfl (by kernel_rfl) (fun _ _ _ h => h) (Or.inl ⟨by rfl, ?_⟩) ?_ ?_
   rotate_left
   ·intro w'
    go_simp
    with_reducible rfl
   rotate_left
   ·simp only [Act.put, List.setIfInBounds_toArray, List.set_cons_zero, List.set_cons_succ]
    rfl
   refine take_ (i := 8) (N := some 29) (v := ?_) (a' := ?_) #[true, true, true, true, true, true, true, true, true, false, false, false, false, false, false] rfl rfl (by kernel_rfl) (fun _ _ _ h => h) (Or.inl ⟨by rfl, ?_⟩) hHeld ?_ ?_
   rotate_left
   ·rintro w' ⟨s0, s1, s2, s3, s4, s5⟩
    go_simp
    with_reducible rfl
   rotate_left
   ·simp only [Act.put, List.setIfInBounds_toArray, List.set_cons_zero, List.set_cons_succ]
    rfl
   refine take_ (i := 9) (N := some 30) (v := ?_) (a' := ?_) #[true, true, true, true, true, true, true, true, true, true, false, false, false, false, false] rfl rfl (by kernel_rfl) (fun _ _ _ h => h) (Or.inl ⟨by rfl, ?_⟩) hHeld ?_ ?_
   rotate_left
   ·rintro w' ⟨s0, s1, s2, s3, s4, s5⟩
    go_simp
    with_reducible rfl
   rotate_left
   ·simp only [Act.put, List.setIfInBounds_toArray, List.set_cons_zero, List.set_cons_succ]
    rfl
   refine pure_ (i := 10) (N := some 31) (v := ?_) (a' := ?_) #[true, true, true, true, true, true, true, true, true, true, true, false, false, false, false] rfl rfl (by kernel_rfl) (fun _ _ _ h => h) (Or.inl ⟨by rfl, ?_⟩) ?_ ?_
   rotate_left
   ·intro w'
    go_simp
    with_reducible rfl
   rotate_left
   ·simp only [Act.put, List.setIfInBounds_toArray, List.set_cons_zero, List.set_cons_succ]
    rfl
   refine pure_ (i := 11) (N := some 32) (v := ?_) (a' := ?_) #[true, true, true, true, true, true, true, true, true, true, true, true, false, false, false] rfl rfl (by kernel_rfl) (fun _ _ _ h => h) (Or.inl ⟨by rfl, ?_⟩) ?_ ?_
   rotate_left
   ·intro w'
    go_simp
    with_reducible rfl
   rotate_left
   ·simp only [Act.put, List.setIfInBounds_toArray, List.set_cons_zero, List.set_cons_succ]
    rfl
   refine take_ (i := 12) (N := some 33) (v := ?_) (a' := ?_) #[true, true, true, true, true, true, true, true, true, true, true, true, true, false, false] rfl rfl (by kernel_rfl) (fun _ _ _ h => h) (Or.inl ⟨by rfl, ?_⟩) hHeld ?_ ?_
   rotate_left
   ·rintro w' ⟨s0, s1, s2, s3, s4, s5⟩
    go_simp
    with_reducible rfl
   rotate_left
   ·simp only [Act.put, List.setIfInBounds_toArray, List.set_cons_zero, List.set_cons_succ]
    rfl
   refine pure_ (i := 13) (N := some 34) (v := ?_) (a' := ?_) #[true, true, true, true, true, true, true, true, true, true, true, true, true, true, false] rfl rfl (by kernel_rfl) (fun _ _ _ h => h) (Or.inl ⟨by rfl, ?_⟩) ?_ ?_
   rotate_left
   ·intro w'
    go_simp
    with_reducible rfl
   rotate_left
   ·simp only [Act.put, List.setIfInBounds_toArray, List.set_cons_zero, List.set_cons_succ]
    rfl
   refine last_ (i := 14) (N := none) #[true, true, true, true, true, true, true, true, true, true, true, true, true, true, true] rfl rfl (by kernel_rfl) (by decide) (fun K hK => ?_)
   have z0 : w3.cell? ⟨W.heap.size + 1, 0, none⟩ = some (.int .i64 0) := (blk_cell K1.out 0).trans rfl
   have z1 : w3.cell? ⟨W.heap.size + 1, 1, none⟩ = some (.int .i64 0) := (blk_cell K1.out 1).trans rfl
   have f0 := blk_frozen K1.out 0
   have f1 := blk_frozen K1.out 1
   refine skip_ (w1 := (w3.setCell ⟨W.heap.size + 1, 0, none⟩ (.int .i64 q)).setCell ⟨W.heap.size + 1, 1, none⟩ (.int .i64 pc)) (by rfl) rfl ?_ ?_
   ·go_simp
   refine hK.out _ _ ?_
   clear hK K
   refine done_ (by kernel_rfl) ?_
   go_wp2
   refine bodyPost_ret (v := .agg #[.int .i64 q, .int .i64 pc]) (by simp [results, Tryd.results147, go_sem, z0, z1]) rfl ⟨rfl, ?_⟩
   exact (HD.out.setCell (by simp) _).setCell (by simp) _
  ·rw [if_neg cz] at h'
   obtain rfl := Option.some.inj h'
   have c3 : (bits .andNot .i64 p pc != 0) = true := bne_iff_ne.mpr cz
   have y1 : WE.cell? ⟨W.heap.size, 1, none⟩ = some (.int .i64 p) := (blk_cell k0 1).trans rfl
   have z0 : WE.cell? ⟨W.heap.size + 1, 0, none⟩ = some (.int .i64 0) := (blk_cell k1 0).trans rfl
   have z1 : WE.cell? ⟨W.heap.size + 1, 1, none⟩ = some (.int .i64 0) := (blk_cell k1 1).trans rfl
   have f0 := blk_frozen k1 0
   have f1 := blk_frozen k1 1
   clear h' hx4 hC1 hC2 hCp b1 b2 cz
   go_enter Tryd.func147, Tryd.ntmps147
   go_wp2
   try rw [hWE]
   repeat (go_quiet (fail); try go_wp2)
   refine bodyPost_ret (v := .agg #[.int .i64 0, .int .i64 (-1)]) (by simp [results, Tryd.results147, go_sem, z0, z1]) rfl ⟨rfl, ?_⟩
   exact ((HW _).setCell (by simp) _).setCell (by simp) _
end Go.Proofs.YtbkcllfgolmloaaDoor.X

