import Derived.Test.YtelicdmaohllgaaDoorRTP2
import Derived.Test.YtelicdmaohllgaaDoorRTP3
import Derived.Carry
import Derived.Outline
import Derived.Lib.AppendIntMem
import Derived.Lib.ItoaLen
import Derived.Shelf.LaysM
import Derived.Shelf.Strconv.Itoa3
import Derived.Shelf.Strconv.Itoa4
import Derived.Shelf.Strings.Builder1
import Derived.Shelf.Strings.Builder2
import Derived.DeepKeys4
import Derived.Maps.Keyed
import Derived.StringKeys
import Derived.Test.YtelicdmaohllgaaDoorRows
import Derived.Lib.LaidTab
import Derived.LaidLaws
import Derived.ChangeVars
import Derived.JoinedOf
import Derived.JoinedAt
import Derived.Deep.Matrix
import Derived.Deep.Grids
import Derived.Lib.SmallJoins
import Derived.ProofKit
import Derived.OpenShut
namespace Go.Proofs.YtelicdmaohllgaaDoor.X
set_option maxHeartbeats 16000000
set_option maxRecDepth 100000
open Go.RowKit Go.Proofs.YtelicdmaohllgaaDoorW.PrintWords Go.Proofs.YtelicdmaohllgaaDoorW.PrintLast Go.Proofs.YtelicdmaohllgaaDoorW.PrintMore
set_option linter.unusedVariables false
set_option linter.unusedSimpArgs false
def fmtM_ren : Go.Shelf.Ren := ⟨fun | 173 => 174 | 246 => 202 | 283 => 217 | 284 => 218 | 285 => 219 | 286 => 220 | 129 => 231 | 317 => 230 | 318 => 232 | 319 => 233 | 320 => 234 | 337 => 244 | 338 => 245 | n => n, fun | 2 => 2 | 3 => 3 | 9 => 9 | 4 => 4 | 171 => 225 | 0 => 0 | 53 => 226 | 37 => 126 | 5 => 5 | 173 => 229 | 212 => 235 | 51 => 236 | 20 => 20 | 213 => 237 | 46 => 180 | 232 => 254 | 233 => 255 | n => n, fun | 17 => 3 | 18 => 6 | 19 => 7 | n => n⟩
theorem fmtM : Go.Proofs.LaysM.n173 Tryd.prog fmtM_ren := {
 mixed := by kernel_rfl
 f129 := Tryd.func231.trans (congrArg some (by kernel_rfl))
 f173 := Tryd.func174.trans (congrArg some (by kernel_rfl))
 f246 := Tryd.func202.trans (congrArg some (by kernel_rfl))
 f283 := Tryd.func217.trans (congrArg some (by kernel_rfl))
 f284 := Tryd.func218.trans (congrArg some (by kernel_rfl))
 f285 := Tryd.func219.trans (congrArg some (by kernel_rfl))
 f286 := Tryd.func220.trans (congrArg some (by kernel_rfl))
 f317 := Tryd.func230.trans (congrArg some (by kernel_rfl))
 f318 := Tryd.func232.trans (congrArg some (by kernel_rfl))
 f319 := Tryd.func233.trans (congrArg some (by kernel_rfl))
 f320 := Tryd.func234.trans (congrArg some (by kernel_rfl))
 f337 := Tryd.func244.trans (congrArg some (by kernel_rfl))
 f338 := Tryd.func245.trans (congrArg some (by kernel_rfl))
 t0 := Tryd.underlying0
 a0 := Tryd.isAgg0
 z0 := Tryd.sizeOf0
 v0 := Tryd.zeroValue0
 t2 := Tryd.underlying2
 a2 := Tryd.isAgg2
 z2 := Tryd.sizeOf2
 v2 := Tryd.zeroValue2
 t3 := Tryd.underlying3
 a3 := Tryd.isAgg3
 z3 := Tryd.sizeOf3
 v3 := Tryd.zeroValue3
 t4 := Tryd.underlying4
 a4 := Tryd.isAgg4
 z4 := Tryd.sizeOf4
 v4 := Tryd.zeroValue4
 t5 := Tryd.underlying5
 a5 := Tryd.isAgg5
 z5 := Tryd.sizeOf5
 v5 := Tryd.zeroValue5
 t9 := Tryd.underlying9
 a9 := Tryd.isAgg9
 z9 := Tryd.sizeOf9
 v9 := Tryd.zeroValue9
 t20 := Tryd.underlying20
 a20 := Tryd.isAgg20
 z20 := Tryd.sizeOf20
 v20 := Tryd.zeroValue20
 t37 := Tryd.underlying126
 a37 := Tryd.isAgg126
 z37 := Tryd.sizeOf126
 v37 := Tryd.zeroValue126
 t46 := Tryd.underlying180
 a46 := Tryd.isAgg180
 z46 := Tryd.sizeOf180
 v46 := Tryd.zeroValue180
 t51 := Tryd.underlying236
 a51 := Tryd.isAgg236
 z51 := Tryd.sizeOf236
 v51 := Tryd.zeroValue236
 t53 := Tryd.underlying226
 a53 := Tryd.isAgg226
 z53 := Tryd.sizeOf226
 v53 := Tryd.zeroValue226
 t171 := Tryd.underlying225
 a171 := Tryd.isAgg225
 z171 := Tryd.sizeOf225
 v171 := Tryd.zeroValue225
 t173 := Tryd.underlying229
 a173 := Tryd.isAgg229
 z173 := Tryd.sizeOf229
 v173 := Tryd.zeroValue229
 t212 := Tryd.underlying235
 a212 := Tryd.isAgg235
 z212 := Tryd.sizeOf235
 v212 := Tryd.zeroValue235
 t213 := Tryd.underlying237
 a213 := Tryd.isAgg237
 z213 := Tryd.sizeOf237
 t232 := Tryd.underlying254
 a232 := Tryd.isAgg254
 z232 := Tryd.sizeOf254
 v232 := Tryd.zeroValue254
 t233 := Tryd.underlying255
 a233 := Tryd.isAgg255
 z233 := Tryd.sizeOf255
 v233 := Tryd.zeroValue255
 g17 := by kernel_rfl
 g18 := by kernel_rfl
 g19 := by kernel_rfl
 i0 := by kernel_rfl
 i2 := by kernel_rfl
 i3 := by kernel_rfl
 i4 := by kernel_rfl
 i5 := by kernel_rfl
 i9 := by kernel_rfl
 i20 := by kernel_rfl
 i37 := by kernel_rfl
 i46 := by kernel_rfl
 i51 := by kernel_rfl
 i53 := by kernel_rfl
 i171 := by kernel_rfl
 i173 := by kernel_rfl
 i212 := by kernel_rfl
 i232 := by kernel_rfl
 i233 := by kernel_rfl
 m17 := by kernel_rfl
 m18 := by kernel_rfl
 m19 := by kernel_rfl }
def bstL_ren : Go.Shelf.Ren := ⟨fun | 169 => 132 | n => n, fun | 70 => 134 | 9 => 9 | 0 => 0 | 72 => 136 | 37 => 126 | 127 => 191 | 3 => 3 | 5 => 5 | n => n, fun | n => n⟩
theorem bstL : Go.Proofs.Lays.n169 Tryd.prog bstL_ren := {
 mixed := by kernel_rfl
 f169 := Tryd.func132.trans (congrArg some (by kernel_rfl))
 t0 := Tryd.underlying0
 a0 := Tryd.isAgg0
 z0 := Tryd.sizeOf0
 v0 := Tryd.zeroValue0
 t3 := Tryd.underlying3
 a3 := Tryd.isAgg3
 z3 := Tryd.sizeOf3
 v3 := Tryd.zeroValue3
 t9 := Tryd.underlying9
 a9 := Tryd.isAgg9
 z9 := Tryd.sizeOf9
 v9 := Tryd.zeroValue9
 t37 := Tryd.underlying126
 a37 := Tryd.isAgg126
 z37 := Tryd.sizeOf126
 v37 := Tryd.zeroValue126
 t70 := Tryd.underlying134
 a70 := Tryd.isAgg134
 z70 := Tryd.sizeOf134
 v70 := Tryd.zeroValue134
 t72 := Tryd.underlying136
 a72 := Tryd.isAgg136
 z72 := Tryd.sizeOf136
 v72 := Tryd.zeroValue136
 t127 := Tryd.underlying191
 a127 := Tryd.isAgg191
 z127 := Tryd.sizeOf191
 v127 := Tryd.zeroValue191 }
open Go.RowKit Go.Sort Go.Lib in
theorem fmt_on {w : World} (h : TabOK w) (n : Int) (h0 : -9223372036854775808 ≤ n) (h1 : n ≤ 9223372036854775807) {W : World} (hb : Below w.heap.size w W) :
  Calls Tryd.prog 174 #[.int .i64 n, .int .i64 10] W fun e w' => e = .returned (.string ⟨(Lib.itoa n).toArray⟩) ∧ Below W.heap.size W w' := by
 refine (Any.strconv_FormatInt_10 fmtM n h0 h1 W (h W hb)).mono ?_; rintro e w' ⟨rfl, k, os, rfl⟩; exact ⟨rfl, below_grown W k os⟩
theorem bstX : Go.Proofs.Builder.Extra Tryd.prog bstL_ren where
 sizeBuilder := by kernel_rfl
 liesBuilder := by kernel_rfl
 t5 := Tryd.underlying5
 a5 := Tryd.isAgg5
 z5 := Tryd.sizeOf5
 v5 := Tryd.zeroValue5
 infoByte := by kernel_rfl
 cellsByte := by kernel_rfl
 sizeByte := by kernel_rfl
 neB5 := by decide
theorem bstr_calls (B b : Nat) (l : List UInt8) (w : World) (h : Lib.IsBuilder 136 5 B b (Lib.byteCells l) w) (hBw : B ≤ w.heap.size) :
  Calls Tryd.prog 132 #[.pointer (some ⟨b, 0, none⟩)] w fun e w' => e = .returned (.string ⟨l.toArray⟩) ∧ Below B w w' := Any.Builder_String_any bstL bstX B b l w h hBw
theorem sizeB : (Tryd.prog.info? 136).map (fun i => i.size) = some 2 := by kernel_rfl
theorem liesB : liesAt Tryd.prog Tryd.prog.depth 136 (2 / Tryd.prog.cellsOf 136) 0 136 1 = true := by kernel_rfl
/-- copyCheck: the builder knows its own address from then on. -/
theorem copyCheck_on (B b : Nat) (bs : List Value) (w : World) (h : Lib.IsBuilder 136 5 B b bs w) :
  Calls Tryd.prog 173 #[.pointer (some ⟨b, 0, none⟩)] w fun e w' => e = .returned (.tuple #[]) ∧ Lib.BuilderAt 136 5 B b (.pointer (some ⟨b, 0, none⟩)) bs w' ∧ Below B w w' := by
 obtain ⟨j, hj, hjs⟩ := Option.map_eq_some_iff.1 sizeB
 rcases h with h | h
 ·have h0 := h.cell0; have hsh := h.shape; have hfz := h.frozen0; have H := am h; clear h; go_enter Tryd.func173, Tryd.ntmps173; go_wp2; rw [Lib.run_to_unsafe w ⟨b, 0, none⟩ Tryd.underlying134 Tryd.underlying210 hj (by rw [hjs]; decide) hsh (Nat.zero_lt_succ 1)]; simp only [Result.andThen]; rw [Oper.upon_value]; go_wp2; rw [run_callFunc_extern Tryd.func201 (by kernel_rfl) (by kernel_rfl) (by kernel_rfl) (e := Extern.AbiNoEscape.same) (by kernel_rfl)]; rw [Lib.run_noEscape]; simp only [Result.andThen]; rw [Oper.upon_value]; go_wp2; rw [Lib.run_from_unsafe w ⟨b, 0, none⟩ Tryd.underlying210 Tryd.underlying134 hj hsh liesB]; simp only [Result.andThen]; rw [Oper.upon_value]; go_wp2
  go_end0
  exact ⟨rfl, H.out.used _, (Below.refl B w).setCell (p := ⟨b, 0, none⟩) H.out.1 _⟩
 ·have h0 := h.cell0; have H := am h; clear h; go_enter Tryd.func173, Tryd.ntmps173; go_wp2; rw [Lib.run_neq_ptr_same w _ Tryd.underlying134 hj]; go_wp2
  go_end0
  exact ⟨rfl, H.out, Below.refl B _⟩
theorem infoByte5 : (Tryd.prog.info? 5).map (fun i => (i.zero, i.size, i.bytes)) = some (some (.int .u8 0), 1, 1) := by kernel_rfl
/-- WriteString. -/
theorem bws_on (B b : Nat) (bs : List Value) (s : ByteArray) (w : World) (h : Lib.IsBuilder 136 5 B b bs w) (hlen : bs.length + s.size ≤ 140737488355328) (hBw : B ≤ w.heap.size) :
  Calls Tryd.prog 129 #[.pointer (some ⟨b, 0, none⟩), .string s] w fun e w' => e = .returned (.tuple #[.int .i64 s.size, .nilIface]) ∧ Lib.BuilderAt 136 5 B b (.pointer (some ⟨b, 0, none⟩)) (bs ++ Lib.strCells s) w' ∧ Below B w w' := by
 obtain ⟨i0, hi, hi2⟩ := Option.map_eq_some_iff.1 infoByte5; simp only [Prod.mk.injEq] at hi2; obtain ⟨hz0, hz1, hz2⟩ := hi2; have H := am h; clear h; go_enter Tryd.func129, Tryd.ntmps129
 go_wp2_with (fail)
 (with_reducible refine (copyCheck_on B b bs w H.out).mono ?_); rintro e w1 ⟨rfl, ⟨hB, v, hbk, hown, hne⟩, hb1⟩; have c0 : w1.cell? ⟨b, 0, none⟩ = some (.pointer (some ⟨b, 0, none⟩)) := (blk_cell hbk 0).trans rfl; have c1 : w1.cell? ⟨b, 1, none⟩ = some v := (blk_cell hbk 1).trans rfl; have hlt := blk_lt hbk
 go_wp2_with (at_builtin; refine Lib.wpList_append_own_string _ rfl _ _ 126 9 rfl B 5 i0 Tryd.underlying126 Tryd.underlying9 hi hz0 hz1 hz2 _ _ _ rfl hown s rfl ?c3 ?c4 ?c5 ?_)
 case c3 => unfold maxLen; omega
 case c4 => omega
 case c5 => have := hb1.size; omega
 intro v' w2 hown' hgrow _
 have hb2 : w2.heap[b]? = some (.cells #[.pointer (some ⟨b, 0, none⟩), v] 136 (0, 0)) := by
  rw [hgrow.block b hlt (fun e => hne e.symm)]; exact hbk
 have d1 : w2.cell? ⟨b, 1, none⟩ = some v := (blk_cell hb2 1).trans rfl; have f1 := blk_frozen hb2 1; have HO := am hown'; have HX := am (And.intro hB (And.intro hb2 (And.intro hb1 (And.intro hgrow hown))))
 obtain ⟨ao, n', cap, rfl⟩ : ∃ ao n' cap, v' = .slice ao n' cap := by
  rcases hown'.2 with ⟨hv, _⟩ | ⟨g, cap, cur, hv, _⟩
  ·exact ⟨_, _, _, hv⟩
  ·exact ⟨_, _, _, hv⟩
 clear hown' hb1 hgrow hown hbk hb2 c0 c1 hi hz0 hz1 hz2 hlen; go_wp2; go_ret2; obtain ⟨hB, hb2, hb1, hgrow, hown⟩ := HX.out; refine ⟨rfl, Lib.BuilderAt.put (T := 136) (e := 5) hB hb2 (bs' := bs ++ Lib.strCells s) (by simpa [Lib.strCells_length] using HO.out) (by decide), ?_⟩; exact (hb1.grown hgrow (by have := hb1.size; omega) (fun k hk => (hown.lt k hk).1)).setCell (p := ⟨b, 1, none⟩) hB _
/-- impl.text writes a number. -/
theorem text_on {w : World} (h : TabOK w) (n : Int) (h0 : -9223372036854775808 ≤ n) (h1 : n ≤ 9223372036854775807) {W : World} (hb : Below w.heap.size w W) :
  Calls Tryd.prog 130 #[.int .i64 n] W fun e w' => e = .returned (.string ⟨(Lib.itoa n).toArray⟩) ∧ Below W.heap.size W w' := by
 have HT := am h; have HB := am hb; clear h hb; go_enter Tryd.func130, Tryd.ntmps130
 go_wp2_with (fail)
 (with_reducible refine (fmt_on HT.out n h0 h1 HB.out).mono ?_); rintro e w' ⟨rfl, hb1⟩; have HB1 := am hb1; clear hb1; go_wp2; go_ret; exact ⟨rfl, HB1.out⟩
/-- A machine in memory, and its rows. -/
def MachAt (W : World) (g : Nat) (tapes start : Int) (ac : List Bool) (ns : List (List Int)) : Prop :=
 ∃ Aa ca An cn, W.heap[g]? = some (.cells #[.int .i64 tapes, .int .i64 start, .slice Aa ac.length ca, .slice An ns.length cn] 78 (0, 0)) ∧ Kd.C Kd.bool W Aa ac.length ac ∧ Kd.C (Kd.slice 3 (Kd.int .i64)) W An ns.length ns
/-- A variable that holds a row of numbers. -/
def VarAt (W : World) (g : Nat) (l : List Int) : Prop :=
 ∃ A c, W.heap[g]? = some (.cells #[.slice A l.length c] 68 (0, 0)) ∧ Kd.C (Kd.int .i64) W A l.length l
theorem MachAt.below {W W1 : World} {g : Nat} {tapes start : Int} {ac : List Bool} {ns : List (List Int)} (h : MachAt W g tapes start ac ns) (hb : Below W.heap.size W W1) : MachAt W1 g tapes start ac ns := by
 obtain ⟨Aa, ca, An, cn, h1, h2, h3⟩ := h; exact ⟨Aa, ca, An, cn, blk_below h1 hb, Kd.C_below h2 hb, Kd.C_below h3 hb⟩
theorem VarAt.below {W W1 : World} {g : Nat} {l : List Int} (h : VarAt W g l) (hb : Below W.heap.size W W1) : VarAt W1 g l := by
 obtain ⟨A, c, h1, h2⟩ := h; exact ⟨A, c, blk_below h1 hb, Kd.C_below h2 hb⟩
def rdR (xs : List (List Int)) (i : Int) : List Int := xs.getD i.toNat []
theorem at_rows {e : TypeId} {w : World} {A : Option Addr} {n : Nat} {xs : List (List Int)} (h : Kd.C (Kd.slice e (Kd.int .i64)) w A n xs) (i : Int) (h0 : 0 ≤ i) (h1 : i < n) : ∃ ad A0 c0, A = some ad ∧ w.cell? (ad.add i.toNat) = some (.slice A0 (rdR xs i).length c0) ∧ (rdR xs i).length ≤ c0 ∧ (Kd.int .i64).C w A0 (rdR xs i).length (rdR xs i) := by
 obtain ⟨ad, c, e', _, ⟨A0, c0, rfl, hl, hC⟩, hc⟩ := Kd.C_get h [] i h0 h1; have := hc 0 _ rfl; rw [show i.toNat * (Kd.slice e (Kd.int .i64)).sz + 0 = i.toNat by simp [show (Kd.slice e (Kd.int .i64)).sz = 1 from rfl]] at this; exact ⟨ad, A0, c0, e', this, hl, hC⟩
def txRow (row : List Int) : List UInt8 := row.flatMap fun x => 32 :: Lib.itoa x
def txYes (a : Bool) : List UInt8 := if a = true then [121, 101, 115] else [110, 111]
def txLine (a : Bool) (row : List Int) : List UInt8 := txYes a ++ txRow row ++ [10]
def txHead (t n s : Int) : List UInt8 := [114, 101, 108, 97, 116, 105, 111, 110, 32] ++ Lib.itoa t ++ [32] ++ Lib.itoa n ++ [32] ++ Lib.itoa s ++ [10]
/-- The text of the first lines. -/
def txPre (t s : Int) (ac : List Bool) (ns : List (List Int)) (i : Nat) : List UInt8 := txHead t ac.length s ++ (List.range i).flatMap fun (j : Nat) => txLine (rdOf false ac (j : Int)) (rdR ns (j : Int))
def i64R (n : Int) : Prop := -9223372036854775808 ≤ n ∧ n ≤ 9223372036854775807
theorem txPre_succ (t s : Int) (ac : List Bool) (ns : List (List Int)) (i : Nat) : txPre t s ac ns (i + 1) = txPre t s ac ns i ++ txLine (rdOf false ac (i : Int)) (rdR ns (i : Int)) := by
 simp [txPre, List.range_succ]
theorem txRow_snoc (row : List Int) (x : Int) : txRow (row ++ [x]) = txRow row ++ (32 :: Lib.itoa x) := by simp [txRow]
theorem itoa_le {n : Int} (h : i64R n) : (Lib.itoa n).length ≤ 21 := Lib.itoa_length_le n h.1 h.2
theorem txRow_len : ∀ (row : List Int), (∀ x ∈ row, i64R x) → (txRow row).length ≤ 22 * row.length := by
 intro row
 induction row with
 | nil => intro _; simp [txRow]
 | cons x row ih =>
  intro h; have h1 := ih (fun y hy => h y (by simp [hy])); have h2 := itoa_le (h x (by simp))
  simp only [txRow, List.flatMap_cons, List.length_append, List.length_cons] at h1 ⊢
  omega
theorem txYes_len (a : Bool) : (txYes a).length ≤ 3 := by cases a <;> simp [txYes]
theorem txPre_len {t s : Int} {ac : List Bool} {ns : List (List Int)} (ht : i64R t) (hs : i64R s) (hn : ac.length ≤ 1000) (hr : ∀ row ∈ ns, row.length ≤ 1000 ∧ ∀ x ∈ row, i64R x) : ∀ i, i ≤ ns.length → (txPre t s ac ns i).length ≤ 100 + 22010 * i := by
 intro i
 induction i with
 | zero =>
  intro _; have h1 := itoa_le ht; have h2 := itoa_le hs; have h3 := itoa_le (n := (ac.length : Int)) ⟨by omega, by omega⟩; simp [txPre, txHead]; omega
 | succ i ih =>
  intro hi; have h1 := ih (by omega)
  have hm : rdR ns (i : Int) ∈ ns := by
   (have e : rdR ns (i : Int) = ns[i] := by simp [rdR, rdOf, List.getD_eq_getElem?_getD, List.getElem?_eq_getElem (show i < ns.length by omega)]); rw [e]; exact List.getElem_mem _
  obtain ⟨h2, h3⟩ := hr _ hm; have h4 := txRow_len _ h3; have h5 := txYes_len (rdOf false ac (i : Int)); rw [txPre_succ]; simp only [txLine, List.length_append, List.length_cons, List.length_nil]; omega
theorem byte_str (l m : List UInt8) : Lib.byteCells l ++ Lib.strCells ⟨m.toArray⟩ = Lib.byteCells (l ++ m) := by simp [Lib.byteCells, Lib.strCells]
theorem byte_len (l : List UInt8) : (Lib.byteCells l).length = l.length := by simp [Lib.byteCells]
theorem bld_below {T e : TypeId} {B b : Nat} {p : Value} {bs : List Value} {W W1 : World} (h : Lib.BuilderAt T e B b p bs W) (hb : Below W.heap.size W W1) : Lib.BuilderAt T e B b p bs W1 := by
 obtain ⟨hB, v, hbk, hown, hne⟩ := h; refine ⟨hB, v, blk_below hbk hb, hown.kept (grown_of_below hb none) ?_, hne⟩
 cases hv : v.ownBlock with
 | none => exact .inl rfl
 | some k => exact .inr (by simp)
theorem ba_size (l : List UInt8) : (⟨l.toArray⟩ : ByteArray).size = l.length := by show l.toArray.size = l.length; simp
theorem isb {T e : TypeId} {B b : Nat} {bs : List Value} {W : World} (h : Lib.BuilderAt T e B b (.pointer (some ⟨b, 0, none⟩)) bs W) : Lib.IsBuilder T e B b bs W := Or.inr h
end Go.Proofs.YtelicdmaohllgaaDoor.X
namespace Go.Proofs.YtelicdmaohllgaaDoor.X
set_option maxHeartbeats 16000000
set_option maxRecDepth 100000
open Go.RowKit Go.Proofs.YtelicdmaohllgaaDoorW.PrintWords Go.Proofs.YtelicdmaohllgaaDoorW.PrintLast Go.Proofs.YtelicdmaohllgaaDoorW.PrintMore
attribute [local go_sem] max2_int min2_int max_two min_two max_three min_three max_four min_four
set_option linter.unusedVariables false
set_option linter.unusedSimpArgs false
def impl_yesNo.f (a0 : Bool) : Option (ByteArray) := if a0 = true then (some (⟨#[121, 101, 115]⟩ : ByteArray)) else (some (⟨#[110, 111]⟩ : ByteArray))
theorem impl_yesNo.calls (a0 : Bool) (r : ByteArray) (w : World) (h : impl_yesNo.f a0 = some r) :
  Calls Tryd.prog 131 #[.bool a0] w fun e w' => e = .returned (.string r) ∧ Drawn0 w w' := by
 have H : (if a0 = true then (some (⟨#[121, 101, 115]⟩ : ByteArray)) else (some (⟨#[110, 111]⟩ : ByteArray))) = some r := h; clear h; by_cases c2 : a0 = true
 ·subst c2; (have H1 : (some (⟨#[121, 101, 115]⟩ : ByteArray)) = some r := by rw [if_pos rfl] at H; exact H); clear H; have H := H1; clear H1; obtain rfl := Option.some.inj H; go_enter Tryd.func131, Tryd.ntmps131; go_wp2; go_ret; exact ⟨tF, tD⟩
 ·replace c2 := Bool.eq_false_iff.mpr c2; subst c2; (have H1 : (some (⟨#[110, 111]⟩ : ByteArray)) = some r := by rw [if_neg (show ¬ (false = true) by decide)] at H; exact H); clear H; have H := H1; clear H1; obtain rfl := Option.some.inj H; go_enter Tryd.func131, Tryd.ntmps131; go_wp2; go_ret; exact ⟨tF, tD⟩
end Go.Proofs.YtelicdmaohllgaaDoor.X
namespace Go.Proofs.YtelicdmaohllgaaDoor.X
set_option maxHeartbeats 16000000
set_option maxRecDepth 100000
open Go.RowKit Go.Proofs.YtelicdmaohllgaaDoorW.PrintWords Go.Proofs.YtelicdmaohllgaaDoorW.PrintLast Go.Proofs.YtelicdmaohllgaaDoorW.PrintMore
set_option linter.unusedVariables false
set_option linter.unusedSimpArgs false
theorem relText_calls (w : World) (htab : TabOK w) (t s : Int) (A2 : Option Addr) (c2 : Nat) (ac : List Bool) (A3 : Option Addr) (c3 : Nat) (ns : List (List Int)) (hr2 : Kd.C Kd.bool w A2 ac.length ac) (hr3 : Kd.C (Kd.slice 2 (Kd.int .i64)) w A3 ns.length ns)
  (ht : i64R t) (hs : i64R s) (hn : ac.length ≤ 1000) (hl : ns.length = ac.length) (hr : ∀ row ∈ ns, row.length ≤ 1000 ∧ ∀ x ∈ row, i64R x) :
  Calls Tryd.prog 82 #[.agg #[.int .i64 t, .int .i64 s, .slice A2 ac.length c2, .slice A3 ns.length c3]] w fun e w' => e = .returned (.string ⟨(txPre t s ac ns ns.length).toArray⟩) ∧ Below w.heap.size w w' := by
 have HT := am htab; have HR2 := am hr2; have HR3 := am hr3; have HC := am (And.intro ht (And.intro hs (And.intro hn (And.intro hl hr)))); clear htab hr2 hr3 ht hs hn hl hr; have HV1 := am (Below.refl (w.alloc (.cells #[.int .i64 t, .int .i64 s, .slice A2 ac.length c2, .slice A3 ns.length c3] 38)).heap.size (w.alloc (.cells #[.int .i64 t, .int .i64 s, .slice A2 ac.length c2, .slice A3 ns.length c3] 38))); have HB1 := am (below_alloc (Below.refl w.heap.size w) (.cells #[.int .i64 t, .int .i64 s, .slice A2 ac.length c2, .slice A3 ns.length c3] 38)); have HX1 := am (blk_new w (.cells #[.int .i64 t, .int .i64 s, .slice A2 ac.length c2, .slice A3 ns.length c3] 38)); have HSZ := am (show (w.alloc (.cells #[.int .i64 t, .int .i64 s, .slice A2 ac.length c2, .slice A3 ns.length c3] 38)).heap.size = w.heap.size + 1 by simp); go_enter Tryd.func82, Tryd.ntmps82
 go_upto_region 1 with (fail)
 generalize World.alloc _ _ = w1 at *
 go_upto_region 2 with (fail)
 have hbd : Below w1.heap.size w1 (w1.alloc (.cells #[.pointer none, .slice none 0 0] 136)).drew := below_drew1 (below_alloc (Below.refl _ _) _); have HV2 := am (below_then HV1.out HV1.out.size hbd); have HB2 := am (below_then HB1.out HB1.out.size hbd); have HU2 : Aside0 (Lib.IsBuilder 136 5 w1.heap.size w1.heap.size (Lib.byteCells []) (w1.alloc (.cells #[.pointer none, .slice none 0 0] 136)).drew) := ⟨.inl ⟨Nat.le_refl _, .slice none 0 0, blk_drew (blk_new w1 _), World.ownsRow_nil _ _ _ _, by simp [Value.ownBlock]⟩⟩; have HOF : Aside0 (∀ V, Below w1.heap.size w1 V → V.cell? ⟨w.heap.size, 0, none⟩ = some (.int .i64 t) ∧ V.cell? ⟨w.heap.size, 1, none⟩ = some (.int .i64 s) ∧ V.cell? ⟨w.heap.size, 2, none⟩ = some (.slice A2 ac.length c2)) := ⟨fun V hb => ⟨(blk_cell (blk_below HX1.out hb) 0).trans rfl, (blk_cell (blk_below HX1.out hb) 1).trans rfl, (blk_cell (blk_below HX1.out hb) 2).trans rfl⟩⟩; have hS := HOF.out _ HV2.out; clear hbd HB1 HV1; refine start_ (n := 17) (S := fun V => V.cell? ⟨w.heap.size, 0, none⟩ = some (.int .i64 t) ∧ V.cell? ⟨w.heap.size, 1, none⟩ = some (.int .i64 s) ∧ V.cell? ⟨w.heap.size, 2, none⟩ = some (.slice A2 ac.length c2)) (ds := []) #[false, false, false, false, false, false, false, false, false, false, false, false, false, false, false, false, false] (by kernel_rfl) rfl rfl hS (fun hHeld => ?_); generalize (w1.alloc (.cells #[.pointer none, .slice none 0 0] 136)).drew = w3 at *; refine pureA 0 (some 8) (bl 17 1) rfl rfl (h := ?_); refine takeA3 1 (some 9) (bl 17 3) hHeld rfl rfl (h := ?_); refine pureA 5 (some 13) (bl 17 35) rfl rfl (h := ?_); refine takeA3 6 (some 14) (bl 17 99) hHeld rfl rfl (h := ?_); refine pureA 7 (some 15) (bl 17 227) rfl rfl (h := ?_); refine pureA 11 (some 19) (bl 17 2275) rfl rfl (h := ?_); refine takeA3 12 (some 20) (bl 17 6371) hHeld rfl rfl (h := ?_); have hl1 := itoa_le HC.out.1; have hl2 := itoa_le (n := (ac.length : Int)) ⟨by omega, by have := HC.out.2.2.1; omega⟩; have hl3 := itoa_le HC.out.2.1; have q1 : (9223372036854775807 < 9 + (Lib.itoa t).length) = False := eq_false (by omega); have q2 : (9223372036854775807 < 9 + (Lib.itoa t).length + 1) = False := eq_false (by omega); have q3 : (9223372036854775807 < 9 + (Lib.itoa t).length + 1 + (Lib.itoa (ac.length : Int)).length) = False := eq_false (by omega); have q4 : (9223372036854775807 < 9 + (Lib.itoa t).length + 1 + (Lib.itoa (ac.length : Int)).length + 1) = False := eq_false (by omega); have q5 : (9223372036854775807 < 9 + (Lib.itoa t).length + 1 + (Lib.itoa (ac.length : Int)).length + 1 + (Lib.itoa s).length) = False := eq_false (by omega); have q6 : (9223372036854775807 < 9 + (Lib.itoa t).length + 1 + (Lib.itoa (ac.length : Int)).length + 1 + (Lib.itoa s).length + 1) = False := eq_false (by omega); refine oneA 2 (some 10) (bl 17 6375) rfl rfl (fun K hK => ?_); refine goesA Tryd.func130 #[.int .i64 t] rfl (h := ?_); refine (text_on HT.out t HC.out.1.1 HC.out.1.2 HB2.out).mono ?_; rintro e w4 ⟨rfl, hb⟩; refine ⟨_, rfl, ?_⟩; have HV4 := am (below_then HV2.out HV2.out.size hb); have HB4 := am (below_then HB2.out HB2.out.size hb); have HU4 : Aside0 (Lib.IsBuilder 136 5 w1.heap.size w1.heap.size (Lib.byteCells []) w4) := ⟨HU2.out.elim (fun h => .inl (bld_below h hb)) (fun h => .inr (bld_below h hb))⟩; refine hK.out _ _ (HOF.out _ HV4.out) (fun hHeld => ?_); clear hK K hb HV2 HB2 HU2 hS; refine normA (h := ?_); refine pureA 3 (some 11) (bl 17 6383) rfl rfl (h := ?_); refine pureA 4 (some 12) (bl 17 6399) rfl rfl (h := ?_); refine oneA 8 (some 16) (bl 17 6655) rfl rfl (fun K hK => ?_); refine goesA Tryd.func130 #[.int .i64 (ac.length : Int)] rfl (h := ?_); refine (text_on HT.out (ac.length : Int) (by omega) (by have := HC.out.2.2.1; omega) HB4.out).mono ?_; rintro e w5 ⟨rfl, hb⟩; refine ⟨_, rfl, ?_⟩; have HV5 := am (below_then HV4.out HV4.out.size hb); have HB5 := am (below_then HB4.out HB4.out.size hb); have HU5 : Aside0 (Lib.IsBuilder 136 5 w1.heap.size w1.heap.size (Lib.byteCells []) w5) := ⟨HU4.out.elim (fun h => .inl (bld_below h hb)) (fun h => .inr (bld_below h hb))⟩; refine hK.out _ _ (HOF.out _ HV5.out) (fun hHeld => ?_); clear hK K hb HV4 HB4 HU4; refine normA (h := ?_); refine pureA 9 (some 17) (bl 17 7167) rfl rfl (h := ?_); refine pureA 10 (some 18) (bl 17 8191) rfl rfl (h := ?_); refine oneA 13 (some 21) (bl 17 16383) rfl rfl (fun K hK => ?_); refine goesA Tryd.func130 #[.int .i64 s] rfl (h := ?_); refine (text_on HT.out s HC.out.2.1.1 HC.out.2.1.2 HB5.out).mono ?_; rintro e w6 ⟨rfl, hb⟩; refine ⟨_, rfl, ?_⟩; have HV6 := am (below_then HV5.out HV5.out.size hb); have HB6 := am (below_then HB5.out HB5.out.size hb); have HU6 : Aside0 (Lib.IsBuilder 136 5 w1.heap.size w1.heap.size (Lib.byteCells []) w6) := ⟨HU5.out.elim (fun h => .inl (bld_below h hb)) (fun h => .inr (bld_below h hb))⟩; refine hK.out _ _ (HOF.out _ HV6.out) (fun hHeld => ?_); clear hK K hb HV5 HB5 HU5; refine normA (h := ?_); refine pureA 14 (some 22) (bl 17 32767) rfl rfl (h := ?_); refine pureA 15 (some 23) (bl 17 65535) rfl rfl (h := ?_)
 have hgh : (⟨#[114, 101, 108, 97, 116, 105, 111, 110, 32]⟩ : ByteArray) ++ ⟨(Lib.itoa t).toArray⟩ ++ ⟨#[32]⟩ ++ ⟨(Lib.itoa (ac.length : Int)).toArray⟩ ++ ⟨#[32]⟩ ++ ⟨(Lib.itoa s).toArray⟩ ++ ⟨#[10]⟩ = ⟨(txHead t ac.length s).toArray⟩ := by
  apply ByteArray.ext; simp [txHead]
 (have hhl : (txHead t ac.length s).length ≤ 100 := by simp [txHead]; omega); refine oneA 16 (some 24) (bl 17 131071) rfl rfl (fun K hK => ?_); refine goesA Tryd.func129 #[.pointer (some ⟨w1.heap.size, 0, none⟩), .string ((⟨#[114, 101, 108, 97, 116, 105, 111, 110, 32]⟩ : ByteArray) ++ ⟨(Lib.itoa t).toArray⟩ ++ ⟨#[32]⟩ ++ ⟨(Lib.itoa (ac.length : Int)).toArray⟩ ++ ⟨#[32]⟩ ++ ⟨(Lib.itoa s).toArray⟩ ++ ⟨#[10]⟩)] rfl (h := ?_); rw [hgh]; refine (bws_on w1.heap.size w1.heap.size (Lib.byteCells []) ⟨(txHead t ac.length s).toArray⟩ w6 HU6.out (by rw [byte_len, ba_size]; simp only [List.length_nil]; omega) HV6.out.size).mono ?_; rintro e w7 ⟨rfl, hU, hb⟩; refine ⟨_, rfl, ?_⟩; rw [byte_str] at hU; have HV7 := am (Below.trans HV6.out hb); have HB7 := am (Below.trans HB6.out (hb.mono (by rw [HSZ.out]; omega))); have HU7 : Aside0 (Lib.BuilderAt 136 5 w1.heap.size w1.heap.size (.pointer (some ⟨w1.heap.size, 0, none⟩)) (Lib.byteCells (txPre t s ac ns 0)) w7) := ⟨by simpa [txPre] using hU⟩; refine hK.out _ _ (HOF.out _ HV7.out) (fun hHeld => ?_); clear hK K hb hU HV6 HB6 HU6 hgh hhl q1 q2 q3 q4 q5 q6 hl1 hl2 hl3; refine normA (h := ?_); refine done_ (by kernel_rfl) ?_; have x3 : w7.cell? ⟨w.heap.size, 3, none⟩ = some (.slice A3 ns.length c3) := (blk_cell (blk_below HX1.out HV7.out) 3).trans rfl; go_wp2; clear x3 hHeld
 have HRL : Aside0 (∀ i : Nat, i < ns.length → (rdR ns (i : Int)).length ≤ 1000 ∧ ∀ x ∈ rdR ns (i : Int), i64R x) := ⟨fun i hi => by
  (have e : rdR ns (i : Int) = ns[i] := by simp [rdR, rdOf, List.getD_eq_getElem?_getD, List.getElem?_eq_getElem hi]); rw [e]
  exact HC.out.2.2.2.2 _ (List.getElem_mem hi)⟩
 go_loopg [28] ns.length (fun kq v28 w' => ∃ (i : Nat), v28 = .int .i64 (i : Int) ∧ Aside0 (i + kq = ns.length) ∧ Aside0 (Below w1.heap.size w1 w') ∧ Aside0 (Below w.heap.size w w') ∧ Aside0 (Lib.BuilderAt 136 5 w1.heap.size w1.heap.size (.pointer (some ⟨w1.heap.size, 0, none⟩)) (Lib.byteCells (txPre t s ac ns i)) w'))
 case atStart => exact ⟨0, rfl, ⟨by omega⟩, HV7, HB7, HU7⟩
 case round =>
  clear HV7 HB7 HU7; obtain ⟨i, rfl, HK, HV, HB, HU⟩ := hrel
  cases gk with
  | zero =>
   (have hi : i = ns.length := by have := HK.out; omega); have c1 : decide ((i : Int) < (ns.length : Int)) = false := decide_eq_false (by omega); have c2_ : decide (i < ns.length) = false := decide_eq_false (by omega); have HI := am hi; clear hi
   go_wp2_with (fail)
   (with_reducible refine (bstr_calls w1.heap.size w1.heap.size (txPre t s ac ns i) wr (isb HU.out) HV.out.size).mono ?_); rintro e w8 ⟨rfl, hb⟩; have HB8 := am (Below.trans HB.out (hb.mono (by rw [HSZ.out]; omega))); clear hb; go_wp2; go_ret; rw [HI.out]; exact ⟨rfl, HB8.out⟩
  | succ k1 =>
   (have hi : i < ns.length := by have := HK.out; omega); (have hil : i < 1000 := by have := HC.out.2.2.1; have := HC.out.2.2.2.1; omega); have c1 : decide ((i : Int) < (ns.length : Int)) = true := decide_eq_true (by omega); have c2_ : decide (i < ns.length) = true := decide_eq_true hi; obtain ⟨ad1, Ar, cr, ea1, hx1, hlr, hCr⟩ := at_rows HR3.out (i : Int) (by omega) (by omega); subst ea1; obtain ⟨adA, eaA, hxA⟩ := Kd.at_bool (Kd.C_below HR2.out HB.out) (i : Int) (by omega) (by have := HC.out.2.2.2.1; omega); subst eaA; simp only [Int.toNat_natCast] at hx1 hxA; replace hx1 := pw_cell_below HB.out hx1; obtain ⟨hrl, hrx⟩ := HRL.out i hi; have hpl := txPre_len HC.out.1 HC.out.2.1 HC.out.2.2.1 HC.out.2.2.2.2 i (by omega); have HSC := am (txPre_succ t s ac ns i); generalize rdR ns (i : Int) = row at *; generalize rdOf false ac (i : Int) = av at *; have HPL := am hpl; have HRX := am (And.intro hrl hrx); have HCr := am hCr; have x2 : wr.cell? ⟨w.heap.size, 2, none⟩ = some (.slice (some adA) ac.length c2) := (blk_cell (blk_below HX1.out HV.out) 2).trans rfl; have p0 : (i < ns.length) = True := eq_true hi; have p1 : (i < ac.length) = True := eq_true (by have := HC.out.2.2.2.1; omega); have HY : Aside0 (impl_yesNo.f av = some ⟨(txYes av).toArray⟩) := ⟨by cases av <;> rfl⟩; have HYL := am (txYes_len av); clear hpl hrl hrx hCr hlr hi
   go_wp2_with (fail)
   (with_reducible refine (impl_yesNo.calls av ⟨(txYes av).toArray⟩ wr HY.out).mono ?_); rintro e w4 ⟨rfl, hd⟩; have hb4 : Below wr.heap.size wr w4 := hd.below; have HV4 := am (below_then HV.out HV.out.size hb4); have HB4 := am (below_then HB.out HB.out.size hb4); have HU4 := am (bld_below HU.out hb4); clear hd hb4 HV HB HU x2 hx1 hxA
   go_wp2_with (fail)
   (with_reducible refine (bws_on w1.heap.size w1.heap.size (Lib.byteCells (txPre t s ac ns i)) ⟨(txYes av).toArray⟩ w4 (isb HU4.out) (by rw [byte_len, ba_size]; have := HPL.out; have := HYL.out; omega) HV4.out.size).mono ?_); rintro e w5 ⟨rfl, hU, hb⟩; rw [byte_str] at hU; have HU5 : Aside0 (Lib.BuilderAt 136 5 w1.heap.size w1.heap.size (.pointer (some ⟨w1.heap.size, 0, none⟩)) (Lib.byteCells (txPre t s ac ns i ++ txYes av ++ txRow (row.take 0))) w5) := ⟨by simpa [txRow] using hU⟩; have HV5 := am (Below.trans HV4.out hb); have HB5 := am (Below.trans HB4.out (hb.mono (by rw [HSZ.out]; omega))); clear hU hb HV4 HB4 HU4; go_wp2
   go_loopg [42] row.length (fun kq v42 w' => ∃ (c : Nat), v42 = .int .i64 (c : Int) ∧ Aside0 (c + kq = row.length) ∧ Aside0 (Below w1.heap.size w1 w') ∧ Aside0 (Below w.heap.size w w') ∧ Aside0 (Lib.BuilderAt 136 5 w1.heap.size w1.heap.size (.pointer (some ⟨w1.heap.size, 0, none⟩)) (Lib.byteCells (txPre t s ac ns i ++ txYes av ++ txRow (row.take c))) w'))
   case atStart => exact ⟨0, rfl, ⟨by omega⟩, HV5, HB5, HU5⟩
   case round =>
    clear HV5 HB5 HU5; obtain ⟨c, rfl, HKc, HV, HB, HU⟩ := hrel
    have HLT : Aside0 ((txPre t s ac ns i ++ txYes av ++ txRow (row.take c)).length ≤ 100000000) := ⟨by
     have h1 := txRow_len (row.take c) (fun x hx => HRX.out.2 x (List.mem_of_mem_take hx)); (have h2 : (row.take c).length ≤ 1000 := by rw [List.length_take]; have := HRX.out.1; omega); have := HPL.out; have := HYL.out; simp only [List.length_append]
     omega⟩
    cases gk with
    | zero =>
     (have hc : c = row.length := by have := HKc.out; omega); have c1 : decide ((c : Int) < (row.length : Int)) = false := decide_eq_false (by omega); have c2_ : decide (c < row.length) = false := decide_eq_false (by omega); have HU1 : Aside0 (Lib.BuilderAt 136 5 w1.heap.size w1.heap.size (.pointer (some ⟨w1.heap.size, 0, none⟩)) (Lib.byteCells (txPre t s ac ns i ++ txYes av ++ txRow row)) wr) := ⟨by have h_ := HU.out; rw [hc, List.take_length] at h_; exact h_⟩; have HLT1 : Aside0 ((txPre t s ac ns i ++ txYes av ++ txRow row).length ≤ 100000000) := ⟨by have h_ := HLT.out; rw [hc, List.take_length] at h_; exact h_⟩; clear hc HU HLT
     go_wp2_with (fail)
     (with_reducible refine (bws_on w1.heap.size w1.heap.size (Lib.byteCells (txPre t s ac ns i ++ txYes av ++ txRow row)) ⟨#[10]⟩ wr (isb HU1.out) (by rw [byte_len, show (⟨#[10]⟩ : ByteArray).size = 1 from rfl]; have := HLT1.out; omega) HV.out.size).mono ?_); rintro e w6 ⟨rfl, hU, hb⟩; rw [show (⟨#[10]⟩ : ByteArray) = ⟨([10] : List UInt8).toArray⟩ from rfl, byte_str] at hU; have HU6 : Aside0 (Lib.BuilderAt 136 5 w1.heap.size w1.heap.size (.pointer (some ⟨w1.heap.size, 0, none⟩)) (Lib.byteCells (txPre t s ac ns (i + 1))) w6) := ⟨by rw [HSC.out]; unfold txLine; simpa [List.append_assoc] using hU⟩; have HV6 := am (Below.trans HV.out hb); have HB6 := am (Below.trans HB.out (hb.mono (by rw [HSZ.out]; omega))); clear hU hb HV HB HU1; go_wp2; go_roundg k1
     case measure => omega
     case rel => exact ⟨i + 1, by go_num, ⟨by have := HK.out; omega⟩, HV6, HB6, HU6⟩
    | succ k2 =>
     (have hc : c < row.length := by have := HKc.out; omega); (have hcl : c < 1000 := by have := HRX.out.1; omega); have c1 : decide ((c : Int) < (row.length : Int)) = true := decide_eq_true (by omega); have c2_ : decide (c < row.length) = true := decide_eq_true hc; obtain ⟨adx, eax, hxx⟩ := Kd.at_int (Kd.C_below HCr.out HB.out) (c : Int) (by omega) (by omega); subst eax; (have hxe : rd row (c : Int) = row[c] := by simp [rd, List.getD_eq_getElem?_getD, List.getElem?_eq_getElem hc]); rw [hxe] at hxx; simp only [Int.toNat_natCast] at hxx; have HX := am (HRX.out.2 _ (List.getElem_mem hc)); have htk : row.take (c + 1) = row.take c ++ [row[c]] := (List.take_append_getElem hc).symm; have HTK := am htk; have hil2 := itoa_le HX.out; generalize row[c] = x at *; have q1 : (9223372036854775807 < 1 + (Lib.itoa x).length) = False := eq_false (by omega); have p2 : (c < row.length) = True := eq_true hc; have HIL := am hil2; have HX0 : Aside0 (-9223372036854775808 ≤ x) := ⟨HX.out.1⟩; have HX1_ : Aside0 (x ≤ 9223372036854775807) := ⟨HX.out.2⟩; clear hxe htk hil2 hc
     go_wp2_with (fail)
     (with_reducible refine (text_on HT.out x HX0.out HX1_.out HB.out).mono ?_); rintro e w4 ⟨rfl, hb⟩; have HV4 := am (below_then HV.out HV.out.size hb); have HB4 := am (below_then HB.out HB.out.size hb); have HU4 := am (bld_below HU.out hb); clear hb HV HB HU hxx
     go_wp2_with (fail)
     (have hcat : (⟨#[32]⟩ : ByteArray) ++ ⟨(Lib.itoa x).toArray⟩ = ⟨(32 :: Lib.itoa x).toArray⟩ := by apply ByteArray.ext; simp); rw [hcat]; (with_reducible refine (bws_on w1.heap.size w1.heap.size (Lib.byteCells (txPre t s ac ns i ++ txYes av ++ txRow (row.take c))) ⟨(32 :: Lib.itoa x).toArray⟩ w4 (isb HU4.out) (by rw [byte_len, ba_size]; have := HLT.out; have := HIL.out; simp only [List.length_cons]; omega) HV4.out.size).mono ?_); rintro e w5 ⟨rfl, hU, hb⟩; rw [byte_str] at hU; have HU5 : Aside0 (Lib.BuilderAt 136 5 w1.heap.size w1.heap.size (.pointer (some ⟨w1.heap.size, 0, none⟩)) (Lib.byteCells (txPre t s ac ns i ++ txYes av ++ txRow (row.take (c + 1)))) w5) := ⟨by rw [HTK.out, txRow_snoc]; simpa [List.append_assoc] using hU⟩; have HV5 := am (Below.trans HV4.out hb); have HB5 := am (Below.trans HB4.out (hb.mono (by rw [HSZ.out]; omega))); clear hU hb HV4 HB4 HU4 hcat q1; go_wp2; go_roundg k2
     case measure => omega
     case rel => exact ⟨c + 1, by go_num, ⟨by have := HKc.out; omega⟩, HV5, HB5, HU5⟩
end Go.Proofs.YtelicdmaohllgaaDoor.X
namespace Go.Proofs.YtelicdmaohllgaaDoor.X
set_option maxHeartbeats 16000000
set_option maxRecDepth 100000
open Go.RowKit Go.Proofs.YtelicdmaohllgaaDoorW.PrintWords Go.Proofs.YtelicdmaohllgaaDoorW.PrintLast Go.Proofs.YtelicdmaohllgaaDoorW.PrintMore
attribute [local go_sem] max2_int min2_int max_two min_two max_three min_three max_four min_four
set_option linter.unusedVariables false
set_option linter.unusedSimpArgs false
end Go.Proofs.YtelicdmaohllgaaDoor.X
namespace Go.Proofs.YtelicdmaohllgaaDoor.X
set_option maxHeartbeats 16000000
set_option maxRecDepth 100000
open Go.RowKit Go.Proofs.YtelicdmaohllgaaDoorW.PrintWords Go.Proofs.YtelicdmaohllgaaDoorW.PrintLast Go.Proofs.YtelicdmaohllgaaDoorW.PrintMore
set_option linter.unusedVariables false
set_option linter.unusedSimpArgs false
/-- The state of 'grow': m, ids (of lm), the result's place, list, m.accept, m.next. -/
def GI (w W : World) (tapes : Int) (own : Nat → Nat) (v14 : Value) (l lm : List Int) (va : Value) (bs : List Bool) (vr : Value) (rs : List (List Int)) : Prop :=
 (W.heap[w.heap.size + 1]? = some (.cells #[.int .i64 tapes, .int .i64 0, va, vr] 78 (0, 0)) ∧ own (w.heap.size + 1) = 4) ∧
 (W.ownsMap Tryd.prog 3 (plainElem Tryd.prog 3) (w.heap.size + 2) lm.length (idsD (Lit.int .i64) lm) ∧ own (w.heap.size + 2) = 5) ∧
 (W.heap[w.heap.size]? = some (.cells #[.int .i64 0, .int .i64 0, .slice none 0 0, .slice none 0 0] 78 (0, 0)) ∧ own w.heap.size = 6) ∧
 (Kd.int .i64).R 3 W w.heap.size (fun k => own k = 1) v14 l ∧ Kd.bool.R 4 W w.heap.size (fun k => own k = 2) va bs ∧
 Kd.S (Kd.slice 3 (Kd.int .i64)) 68 W w.heap.size (fun k => own k = 3) vr rs ∧
 Below w.heap.size w W ∧ lm.Nodup ∧ (∀ x ∈ lm, inI64 x = true) ∧ lm.length ≤ 1900000
section
variable {w W W1 : World} {tapes : Int} {own : Nat → Nat} {v14 : Value} {l lm : List Int} {va : Value} {bs : List Bool} {vr : Value} {rs : List (List Int)}
theorem GI.below (h : GI w W tapes own v14 l lm va bs vr rs) (hb : Below W.heap.size W W1) : GI w W1 tapes own v14 l lm va bs vr rs := by
 obtain ⟨⟨h1, h2⟩, ⟨h3, h4⟩, ⟨h5, h6⟩, h7, h8, h9, h10, h11⟩ := h; exact ⟨⟨blk_below h1 hb, h2⟩, ⟨map_below h3 hb, h4⟩, ⟨blk_below h5 hb, h6⟩, Kd.R_below h7 hb, Kd.R_below h8 hb, Kd.S_below h9 hb, below_then h10 h10.size hb, h11⟩
/-- Another row (number t, none of these) was written. -/
theorem GI.other (h : GI w W tapes own v14 l lm va bs vr rs) {row : Option Nat} {t : Nat} (hg : W.grownBy W1 row) (hr : ∀ k, row = some k → retag own W.heap.size t k = t) (hb : Below w.heap.size w W1) (ht : 6 < t) : GI w W1 tapes (retag own W.heap.size t) v14 l lm va bs vr rs := by
 obtain ⟨h1, h3, h5, h7, h8, h9, h10, h11⟩ := h; exact ⟨blk_otherT h1 hg hr (by omega), map_otherT h3 hg hr (by omega), blk_otherT h5 hg hr (by omega), R_otherT h7 hg hr (by omega), R_otherT h8 hg hr (by omega), S_otherT h9 hg hr (by omega), hb, h11⟩
/-- A new state was put into the map. -/
theorem GI.put (h : GI w W tapes own v14 l l va bs vr rs) {x : Int} (hx : x ∉ l) (hi : inI64 x = true) (hl : l.length < 1900000) (hm : W1.ownsMap Tryd.prog 3 (plainElem Tryd.prog 3) (w.heap.size + 2) (l.length + 1) (idsD (Lit.int .i64) (l ++ [x]))) (hg : W.grownBy W1 (some (w.heap.size + 2))) :
  GI w W1 tapes (retag own W.heap.size 5) v14 l (l ++ [x]) va bs vr rs ∧ ∀ k, some (w.heap.size + 2) = some k → retag own W.heap.size 5 k = 5 := by
 obtain ⟨h1, h3, h5, h7, h8, h9, h10, hn, hin, hlen⟩ := h; (have e : retag own W.heap.size 5 (w.heap.size + 2) = 5 := by rw [retag_lt h3.1.lt]; exact h3.2)
 have hr : ∀ k, some (w.heap.size + 2) = some k → retag own W.heap.size 5 k = 5 := by
  intro k hk; injection hk with hk; subst hk; exact e
 refine ⟨⟨blk_otherT h1 hg hr (by omega), ⟨by simpa using hm, e⟩, blk_otherT h5 hg hr (by omega), R_otherT h7 hg hr (by omega), R_otherT h8 hg hr (by omega), S_otherT h9 hg hr (by omega), h10.grown hg h10.size (fun k hk => by injection hk with hk; omega), ?_, ?_, by simp; omega⟩, hr⟩
 ·refine List.nodup_append.2 ⟨hn, by simp, fun a ha b hb => ?_⟩; simp at hb; subst hb; exact fun he => hx (he ▸ ha)
 ·intro y hy
  rcases List.mem_append.1 hy with hy | hy
  ·exact hin y hy
  ·simp at hy; subst hy; exact hi
/-- m.accept was appended to (not yet stored back): m's own block, still. -/
theorem GI.box (h : GI w W tapes own v14 l lm va bs vr rs) (hg : W.grownBy W1 va.ownBlock) : W1.heap[w.heap.size + 1]? = some (.cells #[.int .i64 tapes, .int .i64 0, va, vr] 78 (0, 0)) := by
 obtain ⟨h1, h3, h5, h7, h8, h9, h10, h11⟩ := h; exact (blk_otherT h1 hg (R_rowT h8) (by omega)).1
end
section
variable {K : Type} [DecidableEq K] {good : K → Prop}
variable {P : Program} (w : World) {ops : Array Oper} {rest : List Oper} {o : Oper} {a : Act} {Q : Exit → Act → World → Prop}
end
section
variable {K : Type} [DecidableEq K] {good : K → Prop} {P : Program} (w : World) {ops : Array Oper} {rest : List Oper} {o : Oper} {a : Act} {Q : Exit → Act → World → Prop}
end
def litP (x : Int × Int) : Lit := .string (keyBytes [.int .i64 x.1, .int .i64 x.2])
def good2 (x : Int × Int) : Bool := inI64 x.1 && inI64 x.2
def kpl : Kd (Int × Int) := Kd.pair (Kd.int .i64) (Kd.int .i64)
def GP (w W : World) (tapes : Int) (own : Nat → Nat) (v14 : Value) (l lm : List (Int × Int)) (va : Value) (bs : List Bool) (vr : Value) (rs : List (List Int)) : Prop :=
 (W.heap[w.heap.size + 2]? = some (.cells #[.int .i64 tapes, .int .i64 0, va, vr] 78 (0, 0)) ∧ own (w.heap.size + 2) = 4) ∧
 (W.ownsMap Tryd.prog 187 (plainElem Tryd.prog 3) (w.heap.size + 3) lm.length (idsD litP lm) ∧ own (w.heap.size + 3) = 5) ∧
 (W.heap[w.heap.size + 1]? = some (.cells #[.int .i64 0, .int .i64 0, .slice none 0 0, .slice none 0 0] 78 (0, 0)) ∧ own (w.heap.size + 1) = 6) ∧
 kpl.R 187 W w.heap.size (fun k => own k = 1) v14 l ∧ Kd.bool.R 4 W w.heap.size (fun k => own k = 2) va bs ∧
 Kd.S (Kd.slice 3 (Kd.int .i64)) 68 W w.heap.size (fun k => own k = 3) vr rs ∧
 Below w.heap.size w W ∧ lm.Nodup ∧ (∀ x ∈ lm, good2 x = true) ∧ lm.length ≤ 1900000
section
variable {w W W1 : World} {tapes : Int} {own : Nat → Nat} {v14 : Value} {l lm : List (Int × Int)} {va : Value} {bs : List Bool} {vr : Value} {rs : List (List Int)}
theorem GP.below (h : GP w W tapes own v14 l lm va bs vr rs) (hb : Below W.heap.size W W1) : GP w W1 tapes own v14 l lm va bs vr rs := by
 obtain ⟨⟨h1, h2⟩, ⟨h3, h4⟩, ⟨h5, h6⟩, h7, h8, h9, h10, h11⟩ := h; exact ⟨⟨blk_below h1 hb, h2⟩, ⟨map_below h3 hb, h4⟩, ⟨blk_below h5 hb, h6⟩, Kd.R_below h7 hb, Kd.R_below h8 hb, Kd.S_below h9 hb, below_then h10 h10.size hb, h11⟩
/-- Another row (number t, none of these) was written. -/
theorem GP.other (h : GP w W tapes own v14 l lm va bs vr rs) {row : Option Nat} {t : Nat} (hg : W.grownBy W1 row) (hr : ∀ k, row = some k → retag own W.heap.size t k = t) (hb : Below w.heap.size w W1) (ht : 6 < t) : GP w W1 tapes (retag own W.heap.size t) v14 l lm va bs vr rs := by
 obtain ⟨h1, h3, h5, h7, h8, h9, h10, h11⟩ := h; exact ⟨blk_otherT h1 hg hr (by omega), map_otherT h3 hg hr (by omega), blk_otherT h5 hg hr (by omega), R_otherT h7 hg hr (by omega), R_otherT h8 hg hr (by omega), S_otherT h9 hg hr (by omega), hb, h11⟩
/-- A new state was put into the map. -/
theorem GP.put (h : GP w W tapes own v14 l l va bs vr rs) {x : Int × Int} (hx : x ∉ l) (hi : good2 x = true) (hl : l.length < 1900000) (hm : W1.ownsMap Tryd.prog 187 (plainElem Tryd.prog 3) (w.heap.size + 3) (l.length + 1) (idsD litP (l ++ [x]))) (hg : W.grownBy W1 (some (w.heap.size + 3))) :
  GP w W1 tapes (retag own W.heap.size 5) v14 l (l ++ [x]) va bs vr rs ∧ ∀ k, some (w.heap.size + 3) = some k → retag own W.heap.size 5 k = 5 := by
 obtain ⟨h1, h3, h5, h7, h8, h9, h10, hn, hin, hlen⟩ := h; (have e : retag own W.heap.size 5 (w.heap.size + 3) = 5 := by rw [retag_lt h3.1.lt]; exact h3.2)
 have hr : ∀ k, some (w.heap.size + 3) = some k → retag own W.heap.size 5 k = 5 := by
  intro k hk; injection hk with hk; subst hk; exact e
 refine ⟨⟨blk_otherT h1 hg hr (by omega), ⟨by simpa using hm, e⟩, blk_otherT h5 hg hr (by omega), R_otherT h7 hg hr (by omega), R_otherT h8 hg hr (by omega), S_otherT h9 hg hr (by omega), h10.grown hg h10.size (fun k hk => by injection hk with hk; omega), ?_, ?_, by simp; omega⟩, hr⟩
 ·refine List.nodup_append.2 ⟨hn, by simp, fun a ha b hb => ?_⟩; simp at hb; subst hb; exact fun he => hx (he ▸ ha)
 ·intro y hy
  rcases List.mem_append.1 hy with hy | hy
  ·exact hin y hy
  ·simp at hy; subst hy; exact hi
/-- m.accept was appended to (not yet stored back): m's own block, still. -/
theorem GP.box (h : GP w W tapes own v14 l lm va bs vr rs) (hg : W.grownBy W1 va.ownBlock) : W1.heap[w.heap.size + 2]? = some (.cells #[.int .i64 tapes, .int .i64 0, va, vr] 78 (0, 0)) := by
 obtain ⟨h1, h3, h5, h7, h8, h9, h10, h11⟩ := h; exact (blk_otherT h1 hg (R_rowT h8) (by omega)).1
end
/-- A box that stays (tag s). -/
def BoxAt (W : World) (own : Nat → Nat) (s g : Nat) (x : Int × Int) : Prop := W.heap[g]? = some (.cells #[.int .i64 x.1, .int .i64 x.2] 187 (0, 0)) ∧ own g = s
section
variable {w W W1 w1 w2 : World} {tapes : Int} {own : Nat → Nat} {v14 : Value} {l lm : List (Int × Int)} {va : Value} {bs : List Bool} {vr : Value} {rs : List (List Int)}
theorem GP.tag (h : GP w W tapes own v14 l lm va bs vr rs) (t : Nat) : GP w W tapes (retag own W.heap.size t) v14 l lm va bs vr rs := by
 obtain ⟨h1, h3, h5, h7, h8, h9, h10⟩ := h; exact ⟨⟨h1.1, by rw [retag_lt (blk_lt h1.1)]; exact h1.2⟩, ⟨h3.1, by rw [retag_lt h3.1.lt]; exact h3.2⟩, ⟨h5.1, by rw [retag_lt (blk_lt h5.1)]; exact h5.2⟩, R_tag h7 t, R_tag h8 t, S_tagged h9 t, h10⟩
theorem BoxAt.cell0 {s g : Nat} {x : Int × Int} (h : BoxAt W own s g x) : W.cell? ⟨g, 0, none⟩ = some (.int .i64 x.1) := (blk_cell h.1 0).trans rfl
theorem BoxAt.below {s g : Nat} {x : Int × Int} (h : BoxAt W own s g x) (hb : Below W.heap.size W W1) : BoxAt W1 own s g x := ⟨blk_below h.1 hb, h.2⟩
theorem BoxAt.tag {s g : Nat} {x : Int × Int} (h : BoxAt W own s g x) (t : Nat) : BoxAt W (retag own W.heap.size t) s g x := ⟨h.1, by rw [retag_lt (blk_lt h.1)]; exact h.2⟩
theorem BoxAt.far {s g : Nat} {x : Int × Int} (h : BoxAt W own s g x) {p : Addr} (hp : g ≠ p.block) (u : Value) : BoxAt (W.setCell p u) own s g x := ⟨blk_far h.1 hp u, h.2⟩
end
/-- The machine's box, the result's box, the variable 'group' and what it holds. -/
def MI (w W : World) (mb : Array Value) (gv : Nat) (own : Nat → Nat) (vg : Value) (lg : List Int) : Prop :=
 (W.heap[w.heap.size]? = some (.cells mb 78 (0, 0)) ∧ own w.heap.size = 4) ∧
 (W.heap[w.heap.size + 1]? = some (.cells #[.int .i64 0, .int .i64 0, .slice none 0 0, .slice none 0 0] 78 (0, 0)) ∧ own (w.heap.size + 1) = 6) ∧
 (W.heap[gv]? = some (.cells #[vg] 68 (0, 0)) ∧ own gv = 5) ∧
 (Kd.int .i64).R 3 W w.heap.size (fun k => own k = 1) vg lg ∧ Below w.heap.size w W
section
variable {w W W1 : World} {mb : Array Value} {gv : Nat} {own : Nat → Nat} {vg : Value} {lg : List Int}
theorem MI.below (h : MI w W mb gv own vg lg) (hb : Below W.heap.size W W1) : MI w W1 mb gv own vg lg := by
 obtain ⟨⟨h1, h2⟩, ⟨h3, h4⟩, ⟨h5, h6⟩, h7, h8⟩ := h; exact ⟨⟨blk_below h1 hb, h2⟩, ⟨blk_below h3 hb, h4⟩, ⟨blk_below h5 hb, h6⟩, Kd.R_below h7 hb, below_then h8 h8.size hb⟩
/-- New blocks, and writes to a row that is none of these. -/
theorem MI.other (h : MI w W mb gv own vg lg) {row : Option Nat} {t : Nat} (hg : W.grownBy W1 row) (hr : ∀ k, row = some k → retag own W.heap.size t k = t) (hb : Below w.heap.size w W1) (ht : 6 < t) : MI w W1 mb gv (retag own W.heap.size t) vg lg := by
 obtain ⟨h1, h3, h5, h7, h8⟩ := h; exact ⟨blk_otherT h1 hg hr (by omega), blk_otherT h3 hg hr (by omega), blk_otherT h5 hg hr (by omega), R_otherT h7 hg hr (by omega), hb⟩
/-- An element of the row is written. -/
theorem MI.set {g n c : Nat} (h : MI w W mb gv own (.slice (some ⟨g, 0, none⟩) n c) lg) (i x : Int) : MI w (W.setCell ⟨g, i.toNat, none⟩ (.int .i64 x)) mb gv own (.slice (some ⟨g, 0, none⟩) n c) (lg.set i.toNat x) := by
 obtain ⟨⟨h1, h2⟩, ⟨h3, h4⟩, ⟨h5, h6⟩, h7, h8⟩ := h; obtain ⟨rfl, -, -⟩ := Kd.R_reads' h7; have hg : own g = 1 := h7.1 g rfl; have hbase := Kd.R_base h7 g rfl; obtain ⟨hR, -⟩ := Kd.R_put h7 i x; refine ⟨⟨blk_far h1 (fun e => ?_) _, h2⟩, ⟨blk_far h3 (fun e => ?_) _, h4⟩, ⟨blk_far h5 (fun e => ?_) _, h6⟩, hR, h8.setCell hbase _⟩
 ·have e' : w.heap.size = g := e; rw [e'] at h2; omega
 ·have e' : w.heap.size + 1 = g := e; rw [e'] at h4; omega
 ·have e' : gv = g := e; rw [e'] at h6; omega
/-- An element of another row is written. -/
theorem MI.far (h : MI w W mb gv own vg lg) {g : Nat} (hb : w.heap.size ≤ g) (hg : 6 < own g) (j : Nat) (x : Value) : MI w (W.setCell ⟨g, j, none⟩ x) mb gv own vg lg := by
 obtain ⟨⟨h1, h2⟩, ⟨h3, h4⟩, ⟨h5, h6⟩, h7, h8⟩ := h; (have ne : ∀ k t, own k = t → t ≤ 6 → k ≠ g := fun k t h ht e => by rw [e] at h; omega); exact ⟨⟨blk_far h1 (ne _ _ h2 (by omega)) _, h2⟩, ⟨blk_far h3 (ne _ _ h4 (by omega)) _, h4⟩, ⟨blk_far h5 (ne _ _ h6 (by omega)) _, h6⟩, Kd.R_far h7 (fun k hk => ne k 1 hk (by omega)) x, h8.setCell hb x⟩
/-- A cell of the row. -/
theorem MI.get (h : MI w W mb gv own vg lg) (i : Int) (h0 : 0 ≤ i) (h1 : i < (lg.length : Int)) : ∃ g c, vg = .slice (some ⟨g, 0, none⟩) lg.length c ∧ W.cell? ⟨g, i.toNat, none⟩ = some (.int .i64 (rd lg i)) ∧ W.frozen? ⟨g, i.toNat, none⟩ = false := by
 obtain ⟨_, _, _, h7, _⟩ := h; obtain ⟨g, c, rfl, _⟩ := Kd.R_form h7 (by omega); obtain ⟨a, b⟩ := Kd.R_cell (0 : Int) h7 i h0 h1; exact ⟨g, c, rfl, a, b⟩
end
def litS (k : List UInt8) : Lit := .string k
/-- .. and the map of the keys, and the next classes. -/
def MR (w W : World) (mb : Array Value) (gv : Nat) (own : Nat → Nat) (vg : Value) (lg : List Int) (bm : Nat) (keys : List (List UInt8)) (vn : Value) (nx : List Int) : Prop :=
 MI w W mb gv own vg lg ∧ (W.ownsMap Tryd.prog 9 (plainElem Tryd.prog 3) bm keys.length (idsD litS keys) ∧ own bm = 7) ∧ (Kd.int .i64).R 3 W w.heap.size (fun k => own k = 8) vn nx ∧ keys.Nodup ∧ w.heap.size ≤ bm
section
variable {w W W1 : World} {mb : Array Value} {gv : Nat} {own : Nat → Nat} {vg : Value} {lg : List Int} {bm : Nat} {keys : List (List UInt8)} {vn : Value} {nx : List Int}
theorem MR.below (h : MR w W mb gv own vg lg bm keys vn nx) (hb : Below W.heap.size W W1) : MR w W1 mb gv own vg lg bm keys vn nx := by
 obtain ⟨h1, ⟨h2, h3⟩, h4, h5, h6⟩ := h; exact ⟨h1.below hb, ⟨map_below h2 hb, h3⟩, Kd.R_below h4 hb, h5, h6⟩
/-- A new key was put into the map. -/
theorem MR.put (h : MR w W mb gv own vg lg bm keys vn nx) {key : List UInt8} (hk : key ∉ keys) (hm : W1.ownsMap Tryd.prog 9 (plainElem Tryd.prog 3) bm (keys.length + 1) (idsD litS (keys ++ [key]))) (hg : W.grownBy W1 (some bm)) :
  MR w W1 mb gv (retag own W.heap.size 7) vg lg bm (keys ++ [key]) vn nx := by
 obtain ⟨h1, ⟨h2, h3⟩, h4, h5, h6⟩ := h; (have e : retag own W.heap.size 7 bm = 7 := by rw [retag_lt h2.lt]; exact h3)
 have hr : ∀ k, some bm = some k → retag own W.heap.size 7 k = 7 := by
  intro k hk; injection hk with hk; subst hk; exact e
 refine ⟨h1.other hg hr (h1.2.2.2.2.grown hg h1.2.2.2.2.size (fun k hk => by injection hk with hk; omega)) (by omega), ⟨by simpa using hm, e⟩, R_otherT h4 hg hr (by omega), ?_, h6⟩; refine List.nodup_append.2 ⟨h5, by simp, fun a ha b hb => ?_⟩; simp at hb; subst hb; exact fun he => hk (he ▸ ha)
/-- A class was noted. -/
theorem MR.set {g n c : Nat} (h : MR w W mb gv own vg lg bm keys (.slice (some ⟨g, 0, none⟩) n c) nx) (i x : Int) : MR w (W.setCell ⟨g, i.toNat, none⟩ (.int .i64 x)) mb gv own vg lg bm keys (.slice (some ⟨g, 0, none⟩) n c) (nx.set i.toNat x) := by
 obtain ⟨h1, ⟨h2, h3⟩, h4, h5, h6⟩ := h; obtain ⟨rfl, -, -⟩ := Kd.R_reads' h4; have hg : own g = 8 := h4.1 g rfl; have hbase := Kd.R_base h4 g rfl; obtain ⟨hR, -⟩ := Kd.R_put h4 i x; exact ⟨h1.far hbase (by omega) _ _, ⟨h2.setCell (fun e => by have e' : bm = g := e; rw [e'] at h3; omega) _, h3⟩, hR, h5, h6⟩
end
section
variable {P : Program} (w : World) {ops : Array Oper} {rest : List Oper} {o : Oper} {a : Act} {Q : Exit → Act → World → Prop}
end
def MO (w W : World) (mb : Array Value) (gv : Nat) (own : Nat → Nat) (vg : Value) (lg : List Int) (go : Nat) (vo : Value) (ol : List Int) : Prop :=
 MI w W mb gv own vg lg ∧ (W.heap[go]? = some (.cells #[vo] 68 (0, 0)) ∧ own go = 7) ∧ (Kd.int .i64).R 3 W w.heap.size (fun k => own k = 8) vo ol
section
variable {w W W1 : World} {mb : Array Value} {gv : Nat} {own : Nat → Nat} {vg : Value} {lg : List Int} {go : Nat} {vo : Value} {ol : List Int}
theorem MO.below (h : MO w W mb gv own vg lg go vo ol) (hb : Below W.heap.size W W1) : MO w W1 mb gv own vg lg go vo ol := by
 obtain ⟨h1, ⟨h2, h3⟩, h4⟩ := h; exact ⟨h1.below hb, ⟨blk_below h2 hb, h3⟩, Kd.R_below h4 hb⟩
theorem MO.set {g n c : Nat} (h : MO w W mb gv own vg lg go (.slice (some ⟨g, 0, none⟩) n c) ol) (i x : Int) : MO w (W.setCell ⟨g, i.toNat, none⟩ (.int .i64 x)) mb gv own vg lg go (.slice (some ⟨g, 0, none⟩) n c) (ol.set i.toNat x) := by
 obtain ⟨h1, ⟨h2, h3⟩, h4⟩ := h; obtain ⟨rfl, -, -⟩ := Kd.R_reads' h4; have hg : own g = 8 := h4.1 g rfl; have hbase := Kd.R_base h4 g rfl; obtain ⟨hR, -⟩ := Kd.R_put h4 i x; exact ⟨h1.far hbase (by omega) _ _, ⟨blk_far h2 (fun e => by have e' : go = g := e; rw [e'] at h3; omega) _, h3⟩, hR⟩
end
/-- .. and a row of digits. -/
def MD (w W : World) (mb : Array Value) (gv : Nat) (own : Nat → Nat) (vg : Value) (lg : List Int) (vd : Value) (ds : List Int) : Prop :=
 MI w W mb gv own vg lg ∧ (Kd.int .i64).R 3 W w.heap.size (fun k => own k = 8) vd ds
section
variable {w W W1 : World} {mb : Array Value} {gv : Nat} {own : Nat → Nat} {vg : Value} {lg : List Int} {vd : Value} {ds : List Int}
theorem MD.below (h : MD w W mb gv own vg lg vd ds) (hb : Below W.heap.size W W1) : MD w W1 mb gv own vg lg vd ds := ⟨h.1.below hb, Kd.R_below h.2 hb⟩
theorem MD.set {g n c : Nat} (h : MD w W mb gv own (.slice (some ⟨g, 0, none⟩) n c) lg vd ds) (i x : Int) : MD w (W.setCell ⟨g, i.toNat, none⟩ (.int .i64 x)) mb gv own (.slice (some ⟨g, 0, none⟩) n c) (lg.set i.toNat x) vd ds := by
 refine ⟨h.1.set i x, Kd.R_far (p := ⟨g, i.toNat, none⟩) h.2 (fun k hk e => ?_) _⟩; have h7 := h.1.2.2.2.1; obtain ⟨rfl, -, -⟩ := Kd.R_reads' h7; have hg : own g = 1 := h7.1 g rfl; have e' : k = g := e; rw [e'] at hk; omega
end
theorem tab_below {w W : World} (h : TabOK w) (hb : Below w.heap.size w W) : TabOK W := fun W' hW => h W' (below_then hb hb.size hW)
end Go.Proofs.YtelicdmaohllgaaDoor.X
namespace Go.Proofs.YtelicdmaohllgaaDoor.X
set_option maxHeartbeats 16000000
set_option maxRecDepth 100000
open Go.RowKit Go.Proofs.YtelicdmaohllgaaDoorW.PrintWords Go.Proofs.YtelicdmaohllgaaDoorW.PrintLast Go.Proofs.YtelicdmaohllgaaDoorW.PrintMore
attribute [local go_sem] max2_int min2_int max_two min_two max_three min_three max_four min_four
set_option linter.unusedVariables false
set_option linter.unusedSimpArgs false
instance i64Dec (n : Int) : Decidable (i64R n) := by unfold i64R; infer_instance
def txQ (t s : Int) (ac : List Bool) (ns : List (List Int)) : Prop := i64R t ∧ i64R s ∧ ac.length ≤ 1000 ∧ ns.length = ac.length ∧ ∀ row ∈ ns, row.length ≤ 1000 ∧ ∀ x ∈ row, i64R x
instance txDec (t s : Int) (ac : List Bool) (ns : List (List Int)) : Decidable (txQ t s ac ns) := by unfold txQ; infer_instance
def impl_relationText.f (k : Nat) (a0_0 : Int) (a0_1 : Int) (l0_2 : List Bool) (l0_3 : List (List Int)) : Option ByteArray := if txQ a0_0 a0_1 l0_2 l0_3 then some ⟨(txPre a0_0 a0_1 l0_2 l0_3 l0_3.length).toArray⟩ else none
theorem impl_relationText.calls (k : Nat) (a0_0 : Int) (a0_1 : Int) (A0_2 : Option Addr) (c0_2 : Nat) (l0_2 : List Bool) (A0_3 : Option Addr) (c0_3 : Nat) (l0_3 : List (List Int)) (r : ByteArray) (w : World) (htab : TabOK w) (hr0_2 : Kd.C Kd.bool w A0_2 l0_2.length l0_2) (hc0_2 : l0_2.length ≤ c0_2) (hr0_3 : Kd.C (Kd.slice 2 (Kd.int .i64)) w A0_3 l0_3.length l0_3) (hc0_3 : l0_3.length ≤ c0_3) (h : impl_relationText.f k a0_0 a0_1 l0_2 l0_3 = some r) :
  Calls Tryd.prog 82 #[.agg #[.int .i64 a0_0, .int .i64 a0_1, .slice A0_2 l0_2.length c0_2, .slice A0_3 l0_3.length c0_3]] w fun e w' => e = .returned (.string r) ∧ Below w.heap.size w w' := by
 unfold impl_relationText.f at h; by_cases hq : txQ a0_0 a0_1 l0_2 l0_3
 case neg => rw [if_neg hq] at h; cases h
 rw [if_pos hq] at h; obtain rfl := Option.some.inj h; obtain ⟨p1, p2, p3, p4, p5⟩ := hq; exact relText_calls w htab a0_0 a0_1 A0_2 c0_2 l0_2 A0_3 c0_3 l0_3 hr0_2 hr0_3 p1 p2 p3 p4 p5
def impl_RelationText.f (k : Nat) (a0_0 : Int) (a0_1 : Int) (l0_2 : List Bool) (l0_3 : List (List Int)) : Option (ByteArray) := (impl_ValidRelation.f k a0_0 a0_1 l0_2 l0_3).bind fun t477 => (if t477 = true then ((impl_relationText.f k a0_0 a0_1 l0_2 l0_3).bind fun t478 => (some t478)) else (some (⟨#[]⟩ : ByteArray)))
theorem impl_RelationText.calls (k : Nat) (a0_0 : Int) (a0_1 : Int) (A0_2 : Option Addr) (c0_2 : Nat) (l0_2 : List Bool) (A0_3 : Option Addr) (c0_3 : Nat) (l0_3 : List (List Int)) (r : ByteArray) (w : World) (htab : TabOK w) (hr0_2 : Kd.C Kd.bool w A0_2 l0_2.length l0_2) (hc0_2 : l0_2.length ≤ c0_2) (hr0_3 : Kd.C (Kd.slice 2 (Kd.int .i64)) w A0_3 l0_3.length l0_3) (hc0_3 : l0_3.length ≤ c0_3) (h : impl_RelationText.f k a0_0 a0_1 l0_2 l0_3 = some r) :
  Calls Tryd.prog 37 #[.agg #[.int .i64 a0_0, .int .i64 a0_1, .slice A0_2 l0_2.length c0_2, .slice A0_3 l0_3.length c0_3]] w fun e w' => e = .returned (.string r) ∧ Below w.heap.size w w' := by
 have HTab := am htab; clear htab; have hu38 := Tryd.underlying38; have HR0_2 := am hr0_2; have HC0_2 := am hc0_2; clear hr0_2 hc0_2; have HR0_3 := am hr0_3; have HC0_3 := am hc0_3; clear hr0_3 hc0_3; have HB := am (Below.refl w.heap.size w); have H : ((impl_ValidRelation.f k a0_0 a0_1 l0_2 l0_3).bind fun t477 => (if t477 = true then ((impl_relationText.f k a0_0 a0_1 l0_2 l0_3).bind fun t478 => (some t478)) else (some (⟨#[]⟩ : ByteArray)))) = some r := h; clear h; obtain ⟨t477, A20, H⟩ := oB H; replace H : (if t477 = true then ((impl_relationText.f k a0_0 a0_1 l0_2 l0_3).bind fun t478 => (some t478)) else (some (⟨#[]⟩ : ByteArray))) = some r := H; have A2 := am A20; clear A20; by_cases c3 : t477 = true
 ·subst c3; (have H1 : ((impl_relationText.f k a0_0 a0_1 l0_2 l0_3).bind fun t478 => (some t478)) = some r := by rw [if_pos rfl] at H; exact H); clear H; have H := H1; clear H1; obtain ⟨t478, A40, H⟩ := oB H; replace H : (some t478) = some r := H; have A4 := am A40; clear A40; obtain rfl := Option.some.inj H; go_enter Tryd.func37, Tryd.ntmps37
  go_wp2_with (first | ((with_reducible refine gate_dst (N := 1) rfl ?_); refine boxA 1 #[.int .i64 a0_0, .int .i64 a0_1, .slice A0_2 l0_2.length c0_2, .slice A0_3 l0_3.length c0_3] 38 rfl rfl (h := ?_); intro gb476 hg w5 hbox hb; have BK476 := am (hbox); have GW476 := am ((by rw [hg]; exact (below_size (tB)) : w.heap.size ≤ gb476)); have GE476 := am ((by rw [hg]; exact (below_size (tB)) : w.heap.size ≤ gb476)); replace HB := am (below_step (tB) hb); clear hb hbox hg; obtain ⟨hcz6_0, hcz6_1, hcz6_2, hcz6_3⟩ := bc4 BK476.out; have hfz6_0 := blk_frozen BK476.out 0; have hfz6_1 := blk_frozen BK476.out 1; have hfz6_2 := blk_frozen BK476.out 2; have hfz6_3 := blk_frozen BK476.out 3) | ((with_reducible refine gate_callee (f := 81) rfl ?_); refine goesLA (some 4) Tryd.func81 #[.agg #[.int .i64 a0_0, .int .i64 a0_1, .slice A0_2 l0_2.length c0_2, .slice A0_3 l0_3.length c0_3]] rfl rfl rfl (h := ?_); (with_reducible refine (impl_ValidRelation.calls k a0_0 a0_1 _ _ l0_2 _ _ l0_3 true _ ?side1 ?side2 ?side3 ?side4 A2.out).mono ?_); (case side1 => exact tC (Kd.C_below HR0_2.out HB.out)); (case side2 => exact HC0_2.out); (case side3 => exact tC (Kd.C_below HR0_3.out HB.out)); (case side4 => exact HC0_3.out); rintro e w7 ⟨rfl, hb⟩; refine ⟨_, rfl, ?_⟩; replace BK476 := am (bkb BK476.out hb); replace HB := am (below_step (tB) hb); (try clear hb); (try clear hb2); (try clear hk); (try clear hi); obtain ⟨hcz8_0, hcz8_1, hcz8_2, hcz8_3⟩ := bc4 BK476.out; have hfz8_0 := blk_frozen BK476.out 0; have hfz8_1 := blk_frozen BK476.out 1; have hfz8_2 := blk_frozen BK476.out 2; have hfz8_3 := blk_frozen BK476.out 3) | ((with_reducible refine gate_callee (f := 82) rfl ?_); refine goesLA (some 7) Tryd.func82 #[.agg #[.int .i64 a0_0, .int .i64 a0_1, .slice A0_2 l0_2.length c0_2, .slice A0_3 l0_3.length c0_3]] rfl rfl rfl (h := ?_); (with_reducible refine (impl_relationText.calls k a0_0 a0_1 _ _ l0_2 _ _ l0_3 t478 _ (tab_below HTab.out (by repeat (first | (with_reducible first | exact HB.out | apply below_alloc | apply pw_below_drewN | apply below_drew1 | refine below_set ?_ GE476.out) | exact HB.out | exact Below.refl _ _))) ?side1 ?side2 ?side3 ?side4 A4.out).mono ?_); (case side1 => exact tC (Kd.C_below HR0_2.out HB.out)); (case side2 => exact HC0_2.out); (case side3 => exact tC (Kd.C_below HR0_3.out HB.out)); (case side4 => exact HC0_3.out); rintro e w9 ⟨rfl, hb⟩; refine ⟨_, rfl, ?_⟩; replace BK476 := am (bkb BK476.out hb); replace HB := am (below_step (tB) hb); (try clear hb); (try clear hb2); (try clear hk); (try clear hi)))
  go_ret; exact ⟨tE, tB⟩
 ·replace c3 := Bool.eq_false_iff.mpr c3; subst c3; (have H1 : (some (⟨#[]⟩ : ByteArray)) = some r := by rw [if_neg (show ¬ (false = true) by decide)] at H; exact H); clear H; have H := H1; clear H1; obtain rfl := Option.some.inj H; go_enter Tryd.func37, Tryd.ntmps37
  go_wp2_with (first | ((with_reducible refine gate_dst (N := 1) rfl ?_); refine boxA 1 #[.int .i64 a0_0, .int .i64 a0_1, .slice A0_2 l0_2.length c0_2, .slice A0_3 l0_3.length c0_3] 38 rfl rfl (h := ?_); intro gb476 hg w10 hbox hb; have BK476 := am (hbox); have GW476 := am ((by rw [hg]; exact (below_size (tB)) : w.heap.size ≤ gb476)); have GE476 := am ((by rw [hg]; exact (below_size (tB)) : w.heap.size ≤ gb476)); replace HB := am (below_step (tB) hb); clear hb hbox hg; obtain ⟨hcz11_0, hcz11_1, hcz11_2, hcz11_3⟩ := bc4 BK476.out; have hfz11_0 := blk_frozen BK476.out 0; have hfz11_1 := blk_frozen BK476.out 1; have hfz11_2 := blk_frozen BK476.out 2; have hfz11_3 := blk_frozen BK476.out 3) | ((with_reducible refine gate_callee (f := 81) rfl ?_); refine goesLA (some 4) Tryd.func81 #[.agg #[.int .i64 a0_0, .int .i64 a0_1, .slice A0_2 l0_2.length c0_2, .slice A0_3 l0_3.length c0_3]] rfl rfl rfl (h := ?_); (with_reducible refine (impl_ValidRelation.calls k a0_0 a0_1 _ _ l0_2 _ _ l0_3 false _ ?side1 ?side2 ?side3 ?side4 A2.out).mono ?_); (case side1 => exact tC (Kd.C_below HR0_2.out HB.out)); (case side2 => exact HC0_2.out); (case side3 => exact tC (Kd.C_below HR0_3.out HB.out)); (case side4 => exact HC0_3.out); rintro e w12 ⟨rfl, hb⟩; refine ⟨_, rfl, ?_⟩; replace BK476 := am (bkb BK476.out hb); replace HB := am (below_step (tB) hb); (try clear hb); (try clear hb2); (try clear hk); (try clear hi)))
  go_ret; exact ⟨tE, tB⟩
end Go.Proofs.YtelicdmaohllgaaDoor.X
namespace Go.Proofs.YtelicdmaohllgaaDoor.X
set_option maxHeartbeats 16000000
set_option maxRecDepth 100000
open Go.RowKit Go.Proofs.YtelicdmaohllgaaDoorW.PrintWords Go.Proofs.YtelicdmaohllgaaDoorW.PrintLast Go.Proofs.YtelicdmaohllgaaDoorW.PrintMore
set_option linter.unusedVariables false
set_option linter.unusedSimpArgs false
open Classical in
noncomputable def laws_FnExactRelationText.f (k : Nat) (t0 : Int) (s0 : Int) (l02 : List Bool) (l03 : List (List Int)) : Option Bool := (laws_szRelation.f k t0 s0 l02 l03 1048576).bind fun z1 => if z1 < 0 then some true else if laws_toRelation.f k t0 s0 l02 l03 = some (t0, s0, l02, l03) then ((spec_RelationText.f k t0 s0 l02 l03).bind fun | (r0) => if impl_RelationText.f k t0 s0 l02 l03 = some (r0) then (if laws_eqRelation.f k t0 s0 l02 l03 t0 s0 l02 l03 = some true then (some true) else none) else none) else none
theorem laws_FnExactRelationText.main (k : Nat) (t0 s0 : Int) (A02 : Option Addr) (c02 : Nat) (l02 : List Bool) (A03 : Option Addr) (c03 : Nat) (l03 : List (List Int)) (w : World) (htab : TabOK w) (hr02 : Kd.C Kd.bool w A02 l02.length l02) (hc02 : l02.length ≤ c02) (hr03 : Kd.C (Kd.slice 2 (Kd.int .i64)) w A03 l03.length l03) (hc03 : l03.length ≤ c03) (z1 : Int) (r0 : ByteArray) (hz1 : laws_szRelation.f k t0 s0 l02 l03 1048576 = some z1) (ht0 : laws_toRelation.f k t0 s0 l02 l03 = some (t0, s0, l02, l03)) (hS : spec_RelationText.f k t0 s0 l02 l03 = some (r0)) (hI : impl_RelationText.f k t0 s0 l02 l03 = some (r0)) (he0 : laws_eqRelation.f k t0 s0 l02 l03 t0 s0 l02 l03 = some true) (hsz1 : ¬ z1 < 0) :
  Calls Tryd.prog 6 #[.agg #[.int .i64 t0, .int .i64 s0, .slice A02 l02.length c02, .slice A03 l03.length c03]] w fun e w' => e = .returned (.bool true) ∧ Below w.heap.size w w' := by
 have HR02 := am hr02; have HC02 := am hc02; have HR03 := am hr03; have HC03 := am hc03; have HZ1 := am hz1; have HT0 := am ht0; have HS := am hS; have HI := am hI; have HE0 := am he0; have HSZ1 := am hsz1; have HT := am htab; clear hr02 hc02 hr03 hc03 hz1 ht0 hS hI he0 hsz1 htab; have HB_w := am (Below.refl w.heap.size w); go_enter Tryd.func6, Tryd.ntmps6
 go_wp2_with (fail)
 have HB_w1 := am (below_alloc (Below.refl w.heap.size w) (.cells #[.int .i64 t0, .int .i64 s0, .slice A02 l02.length c02, .slice A03 l03.length c03] 46)); have BXp0_w1 : Aside0 ((((w.alloc (.cells #[.int .i64 t0, .int .i64 s0, .slice A02 l02.length c02, .slice A03 l03.length c03] 46))).heap)[w.heap.size]? = some (.cells #[.int .i64 t0, .int .i64 s0, .slice A02 l02.length c02, .slice A03 l03.length c03] 46 (0, 0))) := am (by have q_ := (blk_new w (.cells #[.int .i64 t0, .int .i64 s0, .slice A02 l02.length c02, .slice A03 l03.length c03] 46)); simpa using q_); have HZ_w1 := am (show w.heap.size + 1 ≤ ((w.alloc (.cells #[.int .i64 t0, .int .i64 s0, .slice A02 l02.length c02, .slice A03 l03.length c03] 46))).heap.size by simp); generalize (w.alloc (.cells #[.int .i64 t0, .int .i64 s0, .slice A02 l02.length c02, .slice A03 l03.length c03] 46)) = w1 at *; (with_reducible refine (laws_szRelation.calls k t0 s0 _ _ l02 _ _ l03 1048576 z1 _ (Kd.C_below HR02.out HB_w1.out) HC02.out (Kd.C_below HR03.out HB_w1.out) HC03.out HZ1.out).mono ?_); rintro e w2 ⟨rfl, hb⟩; have HZ_w2 := am (show w1.heap.size + 0 ≤ w2.heap.size by have := hb.size; omega); have HB_w2 := am (below_then HB_w1.out HB_w1.out.size hb); have BXp0_w2 := am (blk_below BXp0_w1.out hb); clear HB_w1 BXp0_w1; clear hb; have hsz1 : decide (z1 < 0) = false := decide_eq_false (by have q_ := HSZ1.out; omega); obtain ⟨hx0_0, hx0_1, hx0_2, hx0_3⟩ := bc4 BXp0_w2.out
 go_wp2_with (fail)
 clear hx0_0 hx0_1 hx0_2 hx0_3; (with_reducible refine (laws_toRelation.calls k t0 s0 _ _ l02 _ _ l03 t0 s0 l02 l03 _ (Kd.C_below HR02.out HB_w2.out) HC02.out (Kd.C_below HR03.out HB_w2.out) HC03.out HT0.out).mono ?_); rintro e w3 ⟨vx202, vx203, rfl, hx202, hx203, hb⟩; obtain ⟨Ax202, cx202, hvx202⟩ := Kd.R_slice hx202; subst hvx202; obtain ⟨Ax203, cx203, hvx203⟩ := Kd.S_slice hx203; subst hvx203; have HZ_w3 := am (show w2.heap.size + 0 ≤ w3.heap.size by have := hb.size; omega); have RIx20_w3 := am (RelOwn.mk_ (base := w.heap.size) HB_w2.out.size hx202 hx203); have HB_w3 := am (below_then HB_w2.out HB_w2.out.size hb); have BXp0_w3 := am (blk_below BXp0_w2.out hb); clear HB_w2 BXp0_w2; clear hx202 hx203 hb
 go_wp2_with (fail)
 (with_reducible refine (spec_RelationText.calls k t0 s0 _ _ l02 _ _ l03 r0 _ RIx20_w3.out.reads.1 RIx20_w3.out.reads.2.1 RIx20_w3.out.reads.2.2.1 RIx20_w3.out.reads.2.2.2 HS.out).mono ?_); rintro e w4 ⟨rfl, hb⟩; have HZ_w4 := am (show w3.heap.size + 0 ≤ w4.heap.size by have := hb.size; omega); have HB_w4 := am (below_then HB_w3.out HB_w3.out.size hb); have BXp0_w4 := am (blk_below BXp0_w3.out hb); have RIx20_w4 := am (RIx20_w3.out.below hb); clear HB_w3 BXp0_w3 RIx20_w3; clear hb; obtain ⟨hx0_0, hx0_1, hx0_2, hx0_3⟩ := bc4 BXp0_w4.out
 go_wp2_with (fail)
 clear hx0_0 hx0_1 hx0_2 hx0_3; (with_reducible refine (laws_toRelation.calls k t0 s0 _ _ l02 _ _ l03 t0 s0 l02 l03 _ (Kd.C_below HR02.out HB_w4.out) HC02.out (Kd.C_below HR03.out HB_w4.out) HC03.out HT0.out).mono ?_); rintro e w5 ⟨vx402, vx403, rfl, hx402, hx403, hb⟩; obtain ⟨Ax402, cx402, hvx402⟩ := Kd.R_slice hx402; subst hvx402; obtain ⟨Ax403, cx403, hvx403⟩ := Kd.S_slice hx403; subst hvx403; have HZ_w5 := am (show w4.heap.size + 0 ≤ w5.heap.size by have := hb.size; omega); have RIx40_w5 := am (RelOwn.mk_ (base := w.heap.size) HB_w4.out.size hx402 hx403); have HB_w5 := am (below_then HB_w4.out HB_w4.out.size hb); have BXp0_w5 := am (blk_below BXp0_w4.out hb); have RIx20_w5 := am (RIx20_w4.out.below hb); clear HB_w4 BXp0_w4 RIx20_w4; clear hx402 hx403 hb
 go_upto_region 7 with (fail)
 have BX5_w6 := am (blk_new w5 (.cells #[.int .i64 t0, .int .i64 s0, .slice Ax402 l02.length cx402, .slice Ax403 l03.length cx403] 38)); have hb := below_alloc (Below.refl w5.heap.size w5) (.cells #[.int .i64 t0, .int .i64 s0, .slice Ax402 l02.length cx402, .slice Ax403 l03.length cx403] 38); have HZ_w6 := am (show w5.heap.size + 1 ≤ (w5.alloc (.cells #[.int .i64 t0, .int .i64 s0, .slice Ax402 l02.length cx402, .slice Ax403 l03.length cx403] 38)).heap.size by simp); have HB_w6 := am (below_then HB_w5.out HB_w5.out.size hb); have BXp0_w6 := am (blk_below BXp0_w5.out hb); have RIx20_w6 := am (RIx20_w5.out.below hb); have RIx40_w6 := am (RIx40_w5.out.below hb); clear HB_w5 BXp0_w5 RIx20_w5 RIx40_w5; clear hb; generalize w5.alloc _ = w6 at *; obtain ⟨hx0_0, hx0_1, hx0_2, hx0_3⟩ := bc4 BX5_w6.out
 go_wp2_with (fail)
 clear hx0_0 hx0_1 hx0_2 hx0_3; (with_reducible refine (impl_RelationText.calls k t0 s0 _ _ l02 _ _ l03 r0 _ (tab_below HT.out HB_w6.out) RIx40_w6.out.reads.1 RIx40_w6.out.reads.2.1 RIx40_w6.out.reads.2.2.1 RIx40_w6.out.reads.2.2.2 HI.out).mono ?_); rintro e w7 ⟨rfl, hb⟩; have HZ_w7 := am (show w6.heap.size + 0 ≤ w7.heap.size by have := hb.size; omega); have HB_w7 := am (below_then HB_w6.out HB_w6.out.size hb); have BXp0_w7 := am (blk_below BXp0_w6.out hb); have RIx20_w7 := am (RIx20_w6.out.below hb); have RIx40_w7 := am (RIx40_w6.out.below hb); have BX5_w7 := am (blk_below BX5_w6.out hb); clear HB_w6 BXp0_w6 RIx20_w6 RIx40_w6 BX5_w6; clear hb
 go_upto_region 10 with (fail)
 have HB_w8 := am (below_drew1 HB_w7.out); have BXp0_w8 := am (blk_drew BXp0_w7.out); have RIx20_w8 := am (RIx20_w7.out.below (below_drew (Below.refl _ _))); have RIx40_w8 := am (RIx40_w7.out.below (below_drew (Below.refl _ _))); have BX5_w8 := am (blk_drew BX5_w7.out); clear HB_w7 BXp0_w7 RIx20_w7 RIx40_w7 BX5_w7; have HZ_w8 := am (show w7.heap.size + 0 ≤ w7.drew.heap.size by simp); refine start_ (n := 5) (S := fun w' => w'.cell? ⟨w5.heap.size, 0, none⟩ = some (.int .i64 t0) ∧ w'.cell? ⟨w5.heap.size, 1, none⟩ = some (.int .i64 s0) ∧ w'.cell? ⟨w5.heap.size, 2, none⟩ = some (.slice Ax402 l02.length cx402) ∧ w'.cell? ⟨w5.heap.size, 3, none⟩ = some (.slice Ax403 l03.length cx403) ∧ w'.cell? ⟨w.heap.size, 0, none⟩ = some (.int .i64 t0) ∧ w'.cell? ⟨w.heap.size, 1, none⟩ = some (.int .i64 s0) ∧ w'.cell? ⟨w.heap.size, 2, none⟩ = some (.slice A02 l02.length c02) ∧ w'.cell? ⟨w.heap.size, 3, none⟩ = some (.slice A03 l03.length c03)) (ds := []) #[false, false, false, false, false] (by kernel_rfl) rfl rfl (bc8 BX5_w8.out BXp0_w8.out) (fun hHeld => ?_); generalize w7.drew = w8 at *; refine takeA8 0 (some 22) (bl 5 1) hHeld rfl rfl (h := ?_); refine takeA8 1 (some 23) (bl 5 3) hHeld rfl rfl (h := ?_); refine oneA 2 (some 24) (bl 5 7) rfl rfl (fun K hK => ?_); refine goesA Tryd.func36 #[.agg #[.int .i64 t0, .int .i64 s0, .slice A02 l02.length c02, .slice A03 l03.length c03]] rfl (h := ?_); (with_reducible refine (laws_toRelation.calls k t0 s0 _ _ l02 _ _ l03 t0 s0 l02 l03 _ (Kd.C_below HR02.out HB_w8.out) HC02.out (Kd.C_below HR03.out HB_w8.out) HC03.out HT0.out).mono ?_); rintro e w9 ⟨vx602, vx603, rfl, hx602, hx603, hb⟩; obtain ⟨Ax602, cx602, hvx602⟩ := Kd.R_slice hx602; subst hvx602; obtain ⟨Ax603, cx603, hvx603⟩ := Kd.S_slice hx603; subst hvx603; have HZ_w9 := am (show w8.heap.size + 0 ≤ w9.heap.size by have := hb.size; omega); have RIx60_w9 := am (RelOwn.mk_ (base := w.heap.size) HB_w8.out.size hx602 hx603); have HB_w9 := am (below_then HB_w8.out HB_w8.out.size hb); have BXp0_w9 := am (blk_below BXp0_w8.out hb); have RIx20_w9 := am (RIx20_w8.out.below hb); have RIx40_w9 := am (RIx40_w8.out.below hb); have BX5_w9 := am (blk_below BX5_w8.out hb); clear HB_w8 BXp0_w8 RIx20_w8 RIx40_w8 BX5_w8; clear hx602 hx603 hb; refine ⟨_, rfl, ?_⟩; refine hK.out _ _ (bc8 BX5_w9.out BXp0_w9.out) (fun hHeld => ?_); clear hK K; refine normA (h := ?_); refine oneA 3 (some 25) (bl 5 15) rfl rfl (fun K hK => ?_); refine goesA Tryd.func29 #[.agg #[.int .i64 t0, .int .i64 s0, .slice Ax402 l02.length cx402, .slice Ax403 l03.length cx403], .agg #[.int .i64 t0, .int .i64 s0, .slice Ax602 l02.length cx602, .slice Ax603 l03.length cx603]] rfl (h := ?_); (with_reducible refine (laws_eqRelation.calls k t0 s0 _ _ l02 _ _ l03 t0 s0 _ _ l02 _ _ l03 true _ RIx40_w9.out.reads.1 RIx40_w9.out.reads.2.1 RIx40_w9.out.reads.2.2.1 RIx40_w9.out.reads.2.2.2 RIx60_w9.out.reads.1 RIx60_w9.out.reads.2.1 RIx60_w9.out.reads.2.2.1 RIx60_w9.out.reads.2.2.2 HE0.out).mono ?_); rintro e w10 ⟨rfl, hb⟩; have HZ_w10 := am (show w9.heap.size + 0 ≤ w10.heap.size by have := hb.size; omega); have HB_w10 := am (below_then HB_w9.out HB_w9.out.size hb); have BXp0_w10 := am (blk_below BXp0_w9.out hb); have RIx20_w10 := am (RIx20_w9.out.below hb); have RIx40_w10 := am (RIx40_w9.out.below hb); have BX5_w10 := am (blk_below BX5_w9.out hb); have RIx60_w10 := am (RIx60_w9.out.below hb); clear HB_w9 BXp0_w9 RIx20_w9 RIx40_w9 BX5_w9 RIx60_w9; clear hb; refine ⟨_, rfl, ?_⟩; refine hK.out _ _ (bc8 BX5_w10.out BXp0_w10.out) (fun hHeld => ?_); clear hK K; refine normA (h := ?_); refine pureA 4 (some 26) (bl 5 31) rfl rfl (h := ?_); refine done_ (by kernel_rfl) ?_; clear hHeld; clear RIx20_w10; clear RIx60_w10; go_wp2; go_ret; exact ⟨rfl, HB_w10.out⟩
theorem laws_FnExactRelationText.exit0 (k : Nat) (t0 s0 : Int) (A02 : Option Addr) (c02 : Nat) (l02 : List Bool) (A03 : Option Addr) (c03 : Nat) (l03 : List (List Int)) (w : World) (htab : TabOK w) (hr02 : Kd.C Kd.bool w A02 l02.length l02) (hc02 : l02.length ≤ c02) (hr03 : Kd.C (Kd.slice 2 (Kd.int .i64)) w A03 l03.length l03) (hc03 : l03.length ≤ c03) (z1 : Int) (hz1 : laws_szRelation.f k t0 s0 l02 l03 1048576 = some z1)  (hsz1 : z1 < 0) :
  Calls Tryd.prog 6 #[.agg #[.int .i64 t0, .int .i64 s0, .slice A02 l02.length c02, .slice A03 l03.length c03]] w fun e w' => e = .returned (.bool true) ∧ Below w.heap.size w w' := by
 have HR02 := am hr02; have HC02 := am hc02; have HR03 := am hr03; have HC03 := am hc03; have HZ1 := am hz1; have HSZ1 := am hsz1; have HT := am htab; clear hr02 hc02 hr03 hc03 hz1 hsz1 htab; have HB_w := am (Below.refl w.heap.size w); go_enter Tryd.func6, Tryd.ntmps6
 go_wp2_with (fail)
 have HB_w1 := am (below_alloc (Below.refl w.heap.size w) (.cells #[.int .i64 t0, .int .i64 s0, .slice A02 l02.length c02, .slice A03 l03.length c03] 46)); have BXp0_w1 : Aside0 ((((w.alloc (.cells #[.int .i64 t0, .int .i64 s0, .slice A02 l02.length c02, .slice A03 l03.length c03] 46))).heap)[w.heap.size]? = some (.cells #[.int .i64 t0, .int .i64 s0, .slice A02 l02.length c02, .slice A03 l03.length c03] 46 (0, 0))) := am (by have q_ := (blk_new w (.cells #[.int .i64 t0, .int .i64 s0, .slice A02 l02.length c02, .slice A03 l03.length c03] 46)); simpa using q_); have HZ_w1 := am (show w.heap.size + 1 ≤ ((w.alloc (.cells #[.int .i64 t0, .int .i64 s0, .slice A02 l02.length c02, .slice A03 l03.length c03] 46))).heap.size by simp); generalize (w.alloc (.cells #[.int .i64 t0, .int .i64 s0, .slice A02 l02.length c02, .slice A03 l03.length c03] 46)) = w1 at *; (with_reducible refine (laws_szRelation.calls k t0 s0 _ _ l02 _ _ l03 1048576 z1 _ (Kd.C_below HR02.out HB_w1.out) HC02.out (Kd.C_below HR03.out HB_w1.out) HC03.out HZ1.out).mono ?_); rintro e w2 ⟨rfl, hb⟩; have HZ_w2 := am (show w1.heap.size + 0 ≤ w2.heap.size by have := hb.size; omega); have HB_w2 := am (below_then HB_w1.out HB_w1.out.size hb); have BXp0_w2 := am (blk_below BXp0_w1.out hb); clear HB_w1 BXp0_w1; clear hb; have hx_ : decide (z1 < 0) = true := decide_eq_true (by have q_ := HSZ1.out; omega); go_wp2; go_ret; exact ⟨rfl, HB_w2.out⟩
theorem laws_FnExactRelationText.calls (k : Nat) (t0 s0 : Int) (A02 : Option Addr) (c02 : Nat) (l02 : List Bool) (A03 : Option Addr) (c03 : Nat) (l03 : List (List Int)) (w : World) (htab : TabOK w) (hr02 : Kd.C Kd.bool w A02 l02.length l02) (hc02 : l02.length ≤ c02) (hr03 : Kd.C (Kd.slice 2 (Kd.int .i64)) w A03 l03.length l03) (hc03 : l03.length ≤ c03) (h : laws_FnExactRelationText.f k t0 s0 l02 l03 = some true) :
  Calls Tryd.prog 6 #[.agg #[.int .i64 t0, .int .i64 s0, .slice A02 l02.length c02, .slice A03 l03.length c03]] w fun e w' => e = .returned (.bool true) ∧ Below w.heap.size w w' := by
 unfold laws_FnExactRelationText.f at h; obtain ⟨z1, hz1, h⟩ := oB h; by_cases hsz1 : z1 < 0
 case pos => exact laws_FnExactRelationText.exit0 k t0 s0 A02 c02 l02 A03 c03 l03 w htab hr02 hc02 hr03 hc03 z1 hz1  hsz1
 rw [if_neg hsz1] at h; by_cases ht0 : laws_toRelation.f k t0 s0 l02 l03 = some (t0, s0, l02, l03)
 case neg => rw [if_neg ht0] at h; cases h
 rw [if_pos ht0] at h; obtain ⟨r0, hS, h⟩ := oB h; dsimp only at h; by_cases hI : impl_RelationText.f k t0 s0 l02 l03 = some (r0)
 case neg => rw [if_neg hI] at h; cases h
 rw [if_pos hI] at h; by_cases he0 : laws_eqRelation.f k t0 s0 l02 l03 t0 s0 l02 l03 = some true
 case neg => rw [if_neg he0] at h; cases h
 rw [if_pos he0] at h; exact laws_FnExactRelationText.main k t0 s0 A02 c02 l02 A03 c03 l03 w htab hr02 hc02 hr03 hc03 z1 r0 hz1 ht0 hS hI he0 hsz1
def cellsOfD : DataW Unit → Array Value
 | .agg l => (l.map fun d => match d with | .lit x => x.value | _ => .bool false).toArray
 | _ => #[]
noncomputable def layAt (w : World) (g : Nat) (d : DataW Unit) : World := { w with heap := w.heap.modify g fun
 | .cells _ t frozen => .cells (cellsOfD d) t frozen
 | o => o }
noncomputable def laidWorld (os : Os) : World :=
 layAt (layAt (layAt (World.holding Tryd.prog os ⟨#[], #[], []⟩) 6 Rows.laid_math_bits_deBruijn32tab) 7 Rows.laid_math_bits_deBruijn64tab) 3 Rows.laid_internal_strconv_uint64pow10
def laid3 : List (String × DataW Unit) := [("math/bits.deBruijn32tab", Rows.laid_math_bits_deBruijn32tab), ("math/bits.deBruijn64tab", Rows.laid_math_bits_deBruijn64tab), ("internal/strconv.uint64pow10", Rows.laid_internal_strconv_uint64pow10)]
theorem laidWorld_met (os : Os) (args : Array Value) : laidMet Tryd.prog laid3 ((laidWorld os).forCall (fun _ _ => 0) ⟨#[], args, []⟩).memory :=
 laidMet_of_run (ps := (List.range 32).map (MemPlace.cell 6) ++ (List.range 64).map (MemPlace.cell 7) ++ (List.range 20).map (MemPlace.cell 3)) 8 (by kernel_rfl) (by kernel_rfl) (by kernel_rfl)
theorem pow_data : (Rows.laid_internal_strconv_uint64pow10 : DataW Unit) = Lib.tabData .u64 Lib.pow10Tab := by kernel_rfl
theorem tab_of_laid {W : World} (h : laidMet Tryd.prog laid3 W) : Lib.TabIs Tryd.prog W "internal/strconv.uint64pow10" .u64 Lib.pow10Tab := by
 obtain ⟨ps, ⟨_, _, _, _, _, _, _, _, _, _, ⟨_, _, _, _, _, _, _, _, _, _, ⟨g', t', cs, fuel, p, q, hg', ht', hvar, hd, _, _⟩, _⟩, _⟩, _⟩ := h
 obtain rfl := Option.some.inj ((show Tryd.prog.globalNamed "internal/strconv.uint64pow10" = some 3 by kernel_rfl).symm.trans hg')
 obtain rfl := Option.some.inj ((show (Tryd.prog.globals[3]?).map (·.type) = some 235 by kernel_rfl).symm.trans ht'); rw [pow_data] at hd; unfold Lib.TabIs; rw [hvar, ← Lib.cells_of_tab Tryd.underlying235 Tryd.underlying226 (by kernel_rfl) (by kernel_rfl) hd]
theorem tabOK_of {W : World} (h : laidMet Tryd.prog laid3 W) : TabOK W := Lib.tabBelow_of_tabIs (tab_of_laid h)
open Go.ChangeShapes Go.WideShapes Go.ChangeAt Go.Deep Go.Joins
/-- The rows of a relation, as a law's world reads them. -/
def RelIn (W : World) (A2 : Option Addr) (c2 : Nat) (l2 : List Bool) (A3 : Option Addr) (c3 : Nat) (l3 : List (List Int)) : Prop :=
 Kd.C Kd.bool W A2 l2.length l2 ∧ l2.length ≤ c2 ∧ Kd.C (Kd.slice 2 (Kd.int .i64)) W A3 l3.length l3 ∧ l3.length ≤ c3 ∧ l2.length ≤ 9223372036854775807 ∧ l3.length ≤ 9223372036854775807 ∧ (∀ x ∈ l3, x.length ≤ 9223372036854775807) ∧ ∀ x ∈ l3, ∀ n ∈ x, (Lit.int .i64 n).wf = true
theorem open_bool_row {H : Type} {enc : TypeId × Value → H} {W : World} {base : Nat} {held : Bool} {fuel : Nat} {v : Value} {x : DataW H × List MemPlace} (h : DataW.trod enc Tryd.prog W base (fun _ => true) held fuel 35 [v] = some x) :
  ∃ (A : Option Addr) (c : Nat) (l : List Bool), v = .slice A l.length c ∧ Kd.C Kd.bool W A l.length l ∧ l.length ≤ c ∧ l.length ≤ 9223372036854775807 := by
 rcases open_bools Tryd.underlying35 Tryd.underlying4 (by kernel_rfl) h with ⟨hcs, _⟩ | ⟨a, len, cap, B, hcs, _, hl, hm, _, hcell⟩
 ·simp at hcs; exact ⟨none, 0, [], by simpa using hcs, ⟨rfl, by simp, fun h => absurd h (by simp)⟩, by simp, by simp⟩
 ·simp at hcs; have hm' : cap ≤ 9223372036854775807 := hm; refine ⟨some a, cap, (List.range len).map B, by simpa using hcs, ⟨rfl, by simp; omega, fun _ => ⟨a, rfl, fun j p hj => ?_⟩⟩, by simpa using hl, by simp; omega⟩; have hjl := (List.getElem?_eq_some_iff.1 hj).1; simp at hjl; refine ⟨[.bool p], rfl, rfl, fun i u hu => ?_⟩
  have hi : i = 0 := by
   have := (List.getElem?_eq_some_iff.1 hu).1; simp at this; omega
  subst hi; simp at hu hj; obtain ⟨_, hj⟩ := hj; subst hu; rw [show j * Kd.bool.sz + 0 = j by simp [show Kd.bool.sz = 1 from rfl], hcell j (by omega)]
  simp_all
theorem open_int_row {W : World} {A : Option Addr} {L C : Nat} {Z : List Int} (hL : L ≤ C) (hC : C ≤ maxLen) (hZ : Z.length = C) (hN : A = none → C = 0) (hA : ∀ a', A = some a' → ∀ c, c < C → W.cell? (a'.add c) = some (.int .i64 (Z.getD c 0))) :
  Kd.C (Kd.int .i64) W A (Z.take L).length (Z.take L) := by
 have hC' : C ≤ 9223372036854775807 := hC; refine ⟨rfl, by simp; omega, fun h => ?_⟩
 cases A with
 | none => have := hN rfl; simp at h; omega
 | some a =>
  refine ⟨a, rfl, fun j p hj => ?_⟩; have hjl := (List.getElem?_eq_some_iff.1 hj).1; simp at hjl; refine ⟨[.int .i64 p], rfl, rfl, fun i u hu => ?_⟩
  have hi : i = 0 := by
   have := (List.getElem?_eq_some_iff.1 hu).1; simp at this; omega
  subst hi; simp at hu; subst hu; rw [show j * (Kd.int .i64).sz + 0 = j by simp [show (Kd.int .i64).sz = 1 from rfl], hA a rfl j (by omega)]; rw [List.getElem?_take] at hj; rw [if_pos (by omega)] at hj; simp [List.getD_eq_getElem?_getD, hj]
theorem open_rows {H : Type} {enc : TypeId × Value → H} {W : World} {base : Nat} {held : Bool} {fuel : Nat} {v : Value} {x : DataW H × List MemPlace} (h : DataW.trod enc Tryd.prog W base (fun _ => true) held fuel 36 [v] = some x) :
  ∃ (A : Option Addr) (c : Nat) (l : List (List Int)), v = .slice A l.length c ∧ Kd.C (Kd.slice 2 (Kd.int .i64)) W A l.length l ∧ l.length ≤ c ∧ l.length ≤ 9223372036854775807 ∧ (∀ x ∈ l, x.length ≤ 9223372036854775807) ∧ ∀ x ∈ l, ∀ n ∈ x, (Lit.int .i64 n).wf = true := by
 rcases open_int_rows Tryd.underlying36 Tryd.underlying25 Tryd.underlying2 (by kernel_rfl) (by kernel_rfl) h with ⟨hcs, _⟩ | ⟨a, len, cap, A, L, C, Z, hcs, _, hl, hm, _, hr⟩
 ·simp at hcs; exact ⟨none, 0, [], by simpa using hcs, ⟨rfl, by simp, fun h => absurd h (by simp)⟩, by simp, by simp, by simp, by simp⟩
 ·simp at hcs; have hm' : cap ≤ 9223372036854775807 := hm; refine ⟨some a, cap, (List.range len).map fun r => (Z r).take (L r), by simpa using hcs, ⟨rfl, by simp; omega, fun _ => ⟨a, rfl, fun j p hj => ?_⟩⟩, by simpa using hl, by simp; omega, ?_, ?_⟩
  ·have hjl := (List.getElem?_eq_some_iff.1 hj).1; simp at hjl; obtain ⟨g1, g2, g3, g4, g5, g6, g7⟩ := hr j (by omega); simp at hj; obtain ⟨_, hj⟩ := hj; (have ep : p = (Z j).take (L j) := by simp_all); subst ep; (have el : ((Z j).take (L j)).length = L j := by simp; omega); refine ⟨[.slice (A j) ((Z j).take (L j)).length (C j)], rfl, ⟨A j, C j, rfl, by omega, open_int_row g2 g3 g4 g6 fun a' ha => (g7 a' ha).2⟩, fun i u hu => ?_⟩
   have hi : i = 0 := by
    have := (List.getElem?_eq_some_iff.1 hu).1; simp at this; omega
   subst hi; rw [List.getElem?_cons_zero] at hu; injection hu with hu; subst hu; rw [show j * (Kd.slice 2 (Kd.int .i64)).sz + 0 = j by simp [show (Kd.slice 2 (Kd.int .i64)).sz = 1 from rfl], g1, el]
  ·intro y hy; obtain ⟨r, hrm, rfl⟩ := List.mem_map.1 hy; obtain ⟨g1, g2, g3, g4, g5, g6, g7⟩ := hr r (by have := List.mem_range.1 hrm; omega); have g3' : C r ≤ 9223372036854775807 := g3; simp; omega
  ·intro y hy n hn; obtain ⟨r, hrm, rfl⟩ := List.mem_map.1 hy; obtain ⟨g1, g2, g3, g4, g5, g6, g7⟩ := hr r (by have := List.mem_range.1 hrm; omega); exact g5 n (List.mem_of_mem_take hn)
theorem open_rel {H : Type} {enc : TypeId × Value → H} {W : World} {base : Nat} {held : Bool} {r : Reach} {b0 : Nat} {v : Value} {d : DataW H} {p : List MemPlace} (hv : Value.okWide Tryd.prog W r b0 46 v) (h : DataW.Trod enc Tryd.prog W base (fun _ => true) held 46 v d p) :
  ∃ (t s : Int) (A2 : Option Addr) (c2 : Nat) (l2 : List Bool) (A3 : Option Addr) (c3 : Nat) (l3 : List (List Int)), v = .agg #[.int .i64 t, .int .i64 s, .slice A2 l2.length c2, .slice A3 l3.length c3] ∧ (Lit.int .i64 t).wf = true ∧ (Lit.int .i64 s).wf = true ∧ RelIn W A2 c2 l2 A3 c3 l3 := by
 obtain ⟨v0, v1, v2, v3, y0, y1, y2, y3, n, rfl, _, _, h0, h1, h2, h3⟩ := open_agg4 Tryd.underlying46 (by kernel_rfl) (by kernel_rfl) hv h; obtain ⟨t, e0, _, w0⟩ := DataW.trod_int Tryd.underlying2 h0; obtain ⟨s, e1, _, w1⟩ := DataW.trod_int Tryd.underlying2 h1; injection e0 with e0; injection e1 with e1; subst e0; subst e1; obtain ⟨A2, c2, l2, rfl, g1, g2, g3⟩ := open_bool_row h2; obtain ⟨A3, c3, l3, rfl, k1, k2, k3, k4, k5⟩ := open_rows h3; exact ⟨t, s, A2, c2, l2, A3, c3, l3, rfl, w0, w1, g1, g2, k1, k2, g3, k3, k4, k5⟩
/-- A table of n states whose rows are right. -/
def TableOK (W : Nat) (n : Nat) (ns : List (List Int)) : Prop := ns.length = n ∧ ∀ row ∈ ns, row.length = W ∧ ∀ x ∈ row, 0 ≤ x ∧ x < (n : Int)
theorem TableOK.row {W n : Nat} {ns : List (List Int)} (h : TableOK W n ns) {q : Int} (h0 : 0 ≤ q) (h1 : q < (n : Int)) : ns.getD q.toNat [] ∈ ns := by
 (have hl : q.toNat < ns.length := by rw [h.1]; omega); rw [List.getD_eq_getElem?_getD, List.getElem?_eq_getElem hl]; exact List.getElem_mem hl
end Go.Proofs.YtelicdmaohllgaaDoor.X
