import Derived.Test.YtbkcllfgolmloaaDoorAL3
import Derived.Test.YtbkcllfgolmloaaDoorAL2
import Derived.Carry
import Derived.Outline
namespace Go.Proofs.YtbkcllfgolmloaaDoor.X
open Go Go.RowKit Go.Proofs.YtbkcllfgolmloaaDoorW.PrintWords Go.Proofs.YtbkcllfgolmloaaDoorW.PrintLast Go.Proofs.YtbkcllfgolmloaaDoorW.PrintMore
set_option linter.unusedVariables false
set_option linter.unusedSimpArgs false
/-- A machine in memory, and its rows. -/
def MachAt (W : World) (g : Nat) (tapes start : Int) (ac : List Bool) (ns : List (List Int)) : Prop :=
 ∃ Aa ca An cn, W.heap[g]? = some (.cells #[.int .i64 tapes, .int .i64 start, .slice Aa ac.length ca, .slice An ns.length cn] 74 (0, 0)) ∧ Kd.C Kd.bool W Aa ac.length ac ∧ Kd.C (Kd.slice 3 (Kd.int .i64)) W An ns.length ns
/-- A variable that holds a row of numbers. -/
def VarAt (W : World) (g : Nat) (l : List Int) : Prop :=
 ∃ A c, W.heap[g]? = some (.cells #[.slice A l.length c] 77 (0, 0)) ∧ Kd.C (Kd.int .i64) W A l.length l
theorem MachAt.below {W W1 : World} {g : Nat} {tapes start : Int} {ac : List Bool} {ns : List (List Int)} (h : MachAt W g tapes start ac ns) (hb : Below W.heap.size W W1) : MachAt W1 g tapes start ac ns := by
 obtain ⟨Aa, ca, An, cn, h1, h2, h3⟩ := h
 exact ⟨Aa, ca, An, cn, blk_below h1 hb, Kd.C_below h2 hb, Kd.C_below h3 hb⟩
theorem VarAt.below {W W1 : World} {g : Nat} {l : List Int} (h : VarAt W g l) (hb : Below W.heap.size W W1) : VarAt W1 g l := by
 obtain ⟨A, c, h1, h2⟩ := h
 exact ⟨A, c, blk_below h1 hb, Kd.C_below h2 hb⟩
def accM (one : List Int) (ac : List Bool) (x : Int) : Option Bool := if 0 ≤ x then (if x < (one.length : Int) then (if 0 ≤ rd one x then (if rd one x < (ac.length : Int) then some (rdOf false ac (rd one x)) else none) else none) else none) else none
set_option maxHeartbeats 4000000 in
set_option maxRecDepth 100000 in
theorem merged1_clo {w : World} {gm go : Nat} {tapes start : Int} {ac : List Bool} {ns : List (List Int)} {one : List Int} (hm : MachAt w gm tapes start ac ns) (ho : VarAt w go one) :
  CloOK Tryd.prog w 166 #[.pointer (some ⟨gm, 0, none⟩), .pointer (some ⟨go, 0, none⟩)] (fun x : Int => #[.int .i64 x]) (accM one ac) Value.bool := by
 refine ⟨⟨_, Tryd.func166, by kernel_rfl, rfl⟩, fun x r W hb h => ?_⟩
 obtain ⟨Aa, ca, An, cn, b1, hC1, hC2⟩ := hm.below hb
 obtain ⟨Ao, co, b2, hCo⟩ := ho.below hb
 clear hm ho hb
 unfold accM at h
 by_cases p0 : 0 ≤ x
 ·rw [if_pos p0] at h
  by_cases q0 : x < (one.length : Int)
  ·rw [if_pos q0] at h
   by_cases p1 : 0 ≤ rd one x
   ·rw [if_pos p1] at h
    by_cases q1 : rd one x < (ac.length : Int)
    ·rw [if_pos q1] at h
     obtain rfl := Option.some.inj h
     clear h
     obtain ⟨ad1, e1, hx1⟩ := Kd.at_int hCo x p0 q0
     obtain ⟨ad2, e2, hx2⟩ := Kd.at_bool hC1 (rd one x) p1 q1
     subst e1
     subst e2
     have m2 : W.cell? ⟨gm, 2, none⟩ = some (.slice (some ad2) ac.length ca) := (blk_cell b1 2).trans rfl
     have v0 : W.cell? ⟨go, 0, none⟩ = some (.slice (some ad1) one.length co) := (blk_cell b2 0).trans rfl
     replace p0 := eq_true p0
     replace q0 := eq_true q0
     replace p1 := eq_true p1
     replace q1 := eq_true q1
     clear b1 b2 hC1 hC2 hCo
     go_enter Tryd.func166, Tryd.ntmps166
     go_wp2
     repeat (go_quiet (fail); try go_wp2)
     go_ret
     exact ⟨rfl, by repeat (first | exact Below.refl _ _ | apply pw_below_drewN | apply below_drew1)⟩
    ·rw [if_neg q1] at h
     cases h
   ·rw [if_neg p1] at h
    cases h
  ·rw [if_neg q0] at h
   cases h
 ·rw [if_neg p0] at h
  cases h
def rdR (xs : List (List Int)) (i : Int) : List Int := xs.getD i.toNat []
theorem at_rows {e : TypeId} {w : World} {A : Option Addr} {n : Nat} {xs : List (List Int)} (h : Kd.C (Kd.slice e (Kd.int .i64)) w A n xs) (i : Int) (h0 : 0 ≤ i) (h1 : i < n) : ∃ ad A0 c0, A = some ad ∧ w.cell? (ad.add i.toNat) = some (.slice A0 (rdR xs i).length c0) ∧ (rdR xs i).length ≤ c0 ∧ (Kd.int .i64).C w A0 (rdR xs i).length (rdR xs i) := by
 obtain ⟨ad, c, e', _, ⟨A0, c0, rfl, hl, hC⟩, hc⟩ := Kd.C_get h [] i h0 h1
 have := hc 0 _ rfl
 rw [show i.toNat * (Kd.slice e (Kd.int .i64)).sz + 0 = i.toNat by simp [show (Kd.slice e (Kd.int .i64)).sz = 1 from rfl]] at this
 exact ⟨ad, A0, c0, e', this, hl, hC⟩
/-- A bounds-checked read. -/
def at1 {α : Type} (d : α) (xs : List α) (i : Int) : Option α := if 0 ≤ i ∧ i < (xs.length : Int) then some (rdOf d xs i) else none
def nextM (group one : List Int) (ns : List (List Int)) (g c : Int) : Option Int :=
 (at1 0 one g).bind fun i => (at1 [] ns i).bind fun row => (at1 0 row c).bind fun j => at1 0 group j
theorem at1_some {α : Type} {d : α} {xs : List α} {i : Int} {r : α} (h : at1 d xs i = some r) : 0 ≤ i ∧ i < (xs.length : Int) ∧ r = rdOf d xs i := by
 unfold at1 at h
 split at h
 ·next hc => exact ⟨hc.1, hc.2, (Option.some.inj h).symm⟩
 ·cases h
set_option maxHeartbeats 4000000 in
set_option maxRecDepth 100000 in
theorem merged2_clo {w : World} {gm go gg : Nat} {tapes start : Int} {ac : List Bool} {ns : List (List Int)} {one group : List Int} (hm : MachAt w gm tapes start ac ns) (ho : VarAt w go one) (hg : VarAt w gg group) :
  CloOK Tryd.prog w 167 #[.pointer (some ⟨gg, 0, none⟩), .pointer (some ⟨gm, 0, none⟩), .pointer (some ⟨go, 0, none⟩)] (fun x : Int × Int => #[.int .i64 x.1, .int .i64 x.2]) (fun x => nextM group one ns x.1 x.2) (Value.int .i64) := by
 refine ⟨⟨_, Tryd.func167, by kernel_rfl, rfl⟩, fun x r W hb h => ?_⟩
 obtain ⟨Aa, ca, An, cn, b1, hC1, hC2⟩ := hm.below hb
 obtain ⟨Ao, co, b2, hCo⟩ := ho.below hb
 obtain ⟨Ag, cg, b3, hCg⟩ := hg.below hb
 clear hm ho hg hb
 obtain ⟨x, c⟩ := x
 have h' : nextM group one ns x c = some r := h
 clear h
 obtain ⟨i, h1, h⟩ := Option.bind_eq_some_iff.mp h'
 obtain ⟨row, h2, h⟩ := Option.bind_eq_some_iff.mp h
 obtain ⟨j, h3, h4⟩ := Option.bind_eq_some_iff.mp h
 clear h' h
 obtain ⟨p0, q0, ei⟩ := at1_some h1
 obtain ⟨p1, q1, er⟩ := at1_some h2
 obtain ⟨p2, q2, ej⟩ := at1_some h3
 obtain ⟨p3, q3, eo⟩ := at1_some h4
 clear h1 h2 h3 h4
 obtain ⟨ad1, e1, hx1⟩ := Kd.at_int hCo x p0 q0
 obtain ⟨ad2, A2, c2, e2, hx2, hl2, hC3⟩ := at_rows hC2 i p1 q1
 rw [show rdR ns i = row from er.symm] at hx2 hl2 hC3
 obtain ⟨ad3, e3, hx3⟩ := Kd.at_int hC3 c p2 q2
 obtain ⟨ad4, e4, hx4⟩ := Kd.at_int hCg j p3 q3
 subst e1
 subst e2
 subst e3
 subst e4
 rw [show rd one x = i from ei.symm] at hx1
 rw [show rd row c = j from ej.symm] at hx3
 rw [show rd group j = r from eo.symm] at hx4
 have m3 : W.cell? ⟨gm, 3, none⟩ = some (.slice (some ad2) ns.length cn) := (blk_cell b1 3).trans rfl
 have v0 : W.cell? ⟨go, 0, none⟩ = some (.slice (some ad1) one.length co) := (blk_cell b2 0).trans rfl
 have v1 : W.cell? ⟨gg, 0, none⟩ = some (.slice (some ad4) group.length cg) := (blk_cell b3 0).trans rfl
 clear b1 b2 b3 hC1 hC2 hC3 hCo hCg ei er ej eo
 replace p0 := eq_true p0
 replace q0 := eq_true q0
 replace p1 := eq_true p1
 replace q1 := eq_true q1
 replace p2 := eq_true p2
 replace q2 := eq_true q2
 replace p3 := eq_true p3
 replace q3 := eq_true q3
 show Calls Tryd.prog 167 #[.int .i64 x, .int .i64 c, .pointer (some ⟨gg, 0, none⟩), .pointer (some ⟨gm, 0, none⟩), .pointer (some ⟨go, 0, none⟩)] W fun e W' => e = .returned (.int .i64 r) ∧ Below W.heap.size W W'
 go_enter Tryd.func167, Tryd.ntmps167
 go_wp2
 repeat (go_quiet (fail); try go_wp2)
 go_ret
 exact ⟨rfl, by repeat (first | exact Below.refl _ _ | apply pw_below_drewN | apply below_drew1)⟩
def accT (ac : List Bool) (p : Int × Int) : Option Bool := if 0 ≤ p.2 then at1 false ac p.1 else some false
set_option maxHeartbeats 4000000 in
set_option maxRecDepth 100000 in
theorem tidy1_clo {w : World} {gm : Nat} {tapes start : Int} {ac : List Bool} {ns : List (List Int)} (hm : MachAt w gm tapes start ac ns) :
  CloOK Tryd.prog w 146 #[.pointer (some ⟨gm, 0, none⟩)] (fun x : Int × Int => #[.agg #[.int .i64 x.1, .int .i64 x.2]]) (accT ac) Value.bool := by
 refine ⟨⟨_, Tryd.func146, by kernel_rfl, rfl⟩, fun x r W hb h => ?_⟩
 obtain ⟨Aa, ca, An, cn, b1, hC1, hC2⟩ := hm.below hb
 clear hm hb
 obtain ⟨s, p⟩ := x
 have h' : (if 0 ≤ p then at1 false ac s else some false) = some r := h
 clear h
 show Calls Tryd.prog 146 #[.agg #[.int .i64 s, .int .i64 p], .pointer (some ⟨gm, 0, none⟩)] W fun e W' => e = .returned (.bool r) ∧ Below W.heap.size W W'
 by_cases c : 0 ≤ p
 ·rw [if_pos c] at h'
  obtain ⟨p0, q0, e0⟩ := at1_some h'
  obtain ⟨ad1, e1, hx1⟩ := Kd.at_bool hC1 s p0 q0
  subst e1
  rw [show rdOf false ac s = r from e0.symm] at hx1
  have m2 : W.cell? ⟨gm, 2, none⟩ = some (.slice (some ad1) ac.length ca) := (blk_cell b1 2).trans rfl
  have m2' : (W.alloc (.cells #[.int .i64 s, .int .i64 p] 151)).cell? ⟨gm, 2, none⟩ = some (.slice (some ad1) ac.length ca) := pw_cell_below (below_alloc (Below.refl _ _) _) m2
  have hx1' : (W.alloc (.cells #[.int .i64 s, .int .i64 p] 151)).cell? (ad1.add s.toNat) = some (.bool r) := pw_cell_below (below_alloc (Below.refl _ _) _) hx1
  clear m2 hx1
  have c1 : decide (p ≥ 0) = true := decide_eq_true c
  have c2 : decide (0 ≤ p) = true := decide_eq_true c
  clear b1 hC1 hC2 h' e0 c
  replace p0 := eq_true p0
  replace q0 := eq_true q0
  go_enter Tryd.func146, Tryd.ntmps146
  go_wp2
  repeat (go_quiet (fail); try go_wp2)
  go_ret
  exact ⟨rfl, by repeat (first | exact Below.refl _ _ | apply below_alloc | apply pw_below_drewN | apply below_drew1)⟩
 ·rw [if_neg c] at h'
  obtain rfl := Option.some.inj h'
  have c1 : decide (p ≥ 0) = false := decide_eq_false c
  have c2 : decide (0 ≤ p) = false := decide_eq_false c
  clear b1 hC1 hC2 h' c
  go_enter Tryd.func146, Tryd.ntmps146
  go_wp2
  repeat (go_quiet (fail); try go_wp2)
  go_ret
  exact ⟨rfl, by repeat (first | exact Below.refl _ _ | apply below_alloc | apply pw_below_drewN | apply below_drew1)⟩
def nextT (pads : List Int) (ns : List (List Int)) (x : Int × Int) (c : Int) : Option (Int × Int) :=
 if x.2 < 0 then some (0, -1) else (at1 0 pads c).bind fun pc => if bits .andNot .i64 x.2 pc = 0 then ((at1 [] ns x.1).bind fun row => (at1 0 row c).bind fun q => some (q, pc)) else some (0, -1)
set_option maxHeartbeats 4000000 in
set_option maxRecDepth 100000 in
theorem tidy2_clo {w : World} {gm gp : Nat} {tapes start : Int} {ac : List Bool} {ns : List (List Int)} {pads : List Int} (hm : MachAt w gm tapes start ac ns) (hp : VarAt w gp pads) :
  CloOK Tryd.prog w 147 #[.pointer (some ⟨gp, 0, none⟩), .pointer (some ⟨gm, 0, none⟩)] (fun x : (Int × Int) × Int => #[.agg #[.int .i64 x.1.1, .int .i64 x.1.2], .int .i64 x.2]) (fun x => nextT pads ns x.1 x.2) (fun r : Int × Int => .agg #[.int .i64 r.1, .int .i64 r.2]) := by
 refine ⟨⟨_, Tryd.func147, by kernel_rfl, rfl⟩, fun x r W hb h => ?_⟩
 obtain ⟨Aa, ca, An, cn, b1, hC1, hC2⟩ := hm.below hb
 obtain ⟨Ap, cp, b2, hCp⟩ := hp.below hb
 clear hm hp hb
 obtain ⟨⟨s, p⟩, c⟩ := x
 have h' : nextT pads ns (s, p) c = some r := h
 clear h
 unfold nextT at h'
 show Calls Tryd.prog 147 #[.agg #[.int .i64 s, .int .i64 p], .int .i64 c, .pointer (some ⟨gp, 0, none⟩), .pointer (some ⟨gm, 0, none⟩)] W fun e W' => e = .returned (.agg #[.int .i64 r.1, .int .i64 r.2]) ∧ Below W.heap.size W W'
 have HW : ∀ n, Below W.heap.size W (((W.alloc (.cells #[.int .i64 s, .int .i64 p] 151)).alloc (.cells #[.int .i64 0, .int .i64 0] 151)).drewN n) := fun n => pw_below_drewN (((Below.refl _ W).alloc (Nat.le_refl _) _).alloc (by simp) _) n
 by_cases c0 : p < 0
 ·rw [if_pos c0] at h'
  obtain rfl := Option.some.inj h'
  have c1 : decide (p < 0) = true := decide_eq_true c0
  clear h' c0 b1 b2 hC1 hC2 hCp
  go_enter Tryd.func147, Tryd.ntmps147
  go_wp2
  repeat (go_quiet (fail); try go_wp2)
  refine bodyPost_ret (v := .agg #[.int .i64 0, .int .i64 (-1)]) (by simp [results, Tryd.results147, go_sem]) rfl ⟨rfl, ?_⟩
  exact ((HW _).setCell (by simp) _).setCell (by simp) _
 ·rw [if_neg c0] at h'
  have c1 : decide (p < 0) = false := decide_eq_false c0
  obtain ⟨pc, h1, h'⟩ := Option.bind_eq_some_iff.mp h'
  obtain ⟨p0, q0, e0⟩ := at1_some h1
  obtain ⟨ad4, e4, hx4⟩ := Kd.at_int hCp c p0 q0
  subst e4
  rw [show rd pads c = pc from e0.symm] at hx4
  clear h1 e0 c0
  generalize hWE : ((W.alloc (.cells #[.int .i64 s, .int .i64 p] 151)).alloc (.cells #[.int .i64 0, .int .i64 0] 151)) = WE at HW
  have hbE : Below W.heap.size W WE := by rw [← hWE]; exact ((Below.refl _ W).alloc (Nat.le_refl _) _).alloc (by simp) _
  have x4 : WE.cell? (ad4.add c.toNat) = some (.int .i64 pc) := pw_cell_below hbE hx4
  have v0 : WE.cell? ⟨gp, 0, none⟩ = some (.slice (some ad4) pads.length cp) := pw_cell_below hbE ((blk_cell b2 0).trans rfl)
  have k0 : WE.heap[W.heap.size]? = some (.cells #[.int .i64 s, .int .i64 p] 151 (0, 0)) := by rw [← hWE]; exact blk_alloc (blk_new W _) _
  have k1 : WE.heap[W.heap.size + 1]? = some (.cells #[.int .i64 0, .int .i64 0] 151 (0, 0)) := by rw [← hWE]; have q_ := blk_new (W.alloc (.cells #[.int .i64 s, .int .i64 p] 151)) (.cells #[.int .i64 0, .int .i64 0] 151); simpa using q_
  replace p0 := eq_true p0
  replace q0 := eq_true q0
  by_cases cz : bits .andNot .i64 p pc = 0
  ·rw [if_pos cz] at h'
   obtain ⟨row, h2, h'⟩ := Option.bind_eq_some_iff.mp h'
   obtain ⟨q, h3, h'⟩ := Option.bind_eq_some_iff.mp h'
   obtain rfl := Option.some.inj h'
   obtain ⟨p1, q1, e1⟩ := at1_some h2
   obtain ⟨p2, q2, e2⟩ := at1_some h3
   obtain ⟨ad2, A2, c2, e2', hx2, hl2, hC3⟩ := at_rows hC2 s p1 q1
   rw [show rdR ns s = row from e1.symm] at hx2 hl2 hC3
   obtain ⟨ad3, e3, hx3⟩ := Kd.at_int hC3 c p2 q2
   subst e2'
   subst e3
   rw [show rd row c = q from e2.symm] at hx3
   have m3 : WE.cell? ⟨gm, 3, none⟩ = some (.slice (some ad2) ns.length cn) := pw_cell_below hbE ((blk_cell b1 3).trans rfl)
   have x2 : WE.cell? (ad2.add s.toNat) = some (.slice (some ad3) row.length c2) := pw_cell_below hbE hx2
   have x3 : WE.cell? (ad3.add c.toNat) = some (.int .i64 q) := pw_cell_below hbE hx3
   have c3 : (bits .andNot .i64 p pc != 0) = false := bne_eq_false_iff_eq.mpr cz
   have y0 := (blk_cell k0 0).trans rfl
   replace y0 : WE.cell? ⟨W.heap.size, 0, none⟩ = some (.int .i64 s) := y0
   have y1 : WE.cell? ⟨W.heap.size, 1, none⟩ = some (.int .i64 p) := (blk_cell k0 1).trans rfl
   replace p1 := eq_true p1
   replace q1 := eq_true q1
   replace p2 := eq_true p2
   replace q2 := eq_true q2
   clear h2 h3 h' e1 e2 hl2 hx2 hx3 hx4 hC1 hC2 hC3 hCp b1 b2 cz
   go_enter Tryd.func147, Tryd.ntmps147
   go_wp2
   try rw [hWE]
   repeat (go_quiet (fail); try go_wp2)
   have hd : Below WE.heap.size WE ((WE.drewN nq).drew) := below_drew1 (pw_below_drewN (Below.refl _ _) nq)
   have HE := Aside0.mk (HW nq)
   have K1 := Aside0.mk (blk_below k1 hd)
   have HD := Aside0.mk (show Below W.heap.size W ((WE.drewN nq).drew) from below_drew1 (HW nq))
   refine start_ (n := 15) (S := fun w' => w'.cell? ⟨gm, 3, none⟩ = some (.slice (some ad2) ns.length cn) ∧ w'.cell? ⟨W.heap.size, 0, none⟩ = some (.int .i64 s) ∧ w'.cell? (ad2.add s.toNat) = some (.slice (some ad3) row.length c2) ∧ w'.cell? (ad3.add c.toNat) = some (.int .i64 q) ∧ w'.cell? ⟨gp, 0, none⟩ = some (.slice (some ad4) pads.length cp) ∧ w'.cell? (ad4.add c.toNat) = some (.int .i64 pc)) (ds := [14]) #[false, false, false, false, false, false, false, false, false, false, false, false, false, false, false] (by kernel_rfl) rfl rfl ⟨pw_cell_below hd m3, pw_cell_below hd y0, pw_cell_below hd x2, pw_cell_below hd x3, pw_cell_below hd v0, pw_cell_below hd x4⟩ (fun hHeld => ?_)
   clear hd m3 y0 y1 x2 x3 v0 x4 k0 k1 hWE HW HE hbE
   generalize (WE.drewN nq).drew = w3 at K1 HD hHeld ⊢
   refine pure_ (i := 0) (N := some 21) (v := ?_) (a' := ?_) #[true, false, false, false, false, false, false, false, false, false, false, false, false, false, false] rfl rfl (by kernel_rfl) (fun _ _ _ h => h) (Or.inl ⟨by rfl, ?_⟩) ?_ ?_
   rotate_left
   ·intro w'
    go_simp
    with_reducible rfl
   rotate_left
   ·simp only [Act.put, List.setIfInBounds_toArray, List.set_cons_zero, List.set_cons_succ]
    rfl
   refine take_ (i := 1) (N := some 22) (v := ?_) (a' := ?_) #[true, true, false, false, false, false, false, false, false, false, false, false, false, false, false] rfl rfl (by kernel_rfl) (fun _ _ _ h => h) (Or.inl ⟨by rfl, ?_⟩) hHeld ?_ ?_
   rotate_left
   ·rintro w' ⟨s0, s1, s2, s3, s4, s5⟩
    go_simp
    with_reducible rfl
   rotate_left
   ·simp only [Act.put, List.setIfInBounds_toArray, List.set_cons_zero, List.set_cons_succ]
    rfl
   refine pure_ (i := 2) (N := some 23) (v := ?_) (a' := ?_) #[true, true, true, false, false, false, false, false, false, false, false, false, false, false, false] rfl rfl (by kernel_rfl) (fun _ _ _ h => h) (Or.inl ⟨by rfl, ?_⟩) ?_ ?_
   rotate_left
   ·intro w'
    go_simp
    with_reducible rfl
   rotate_left
   ·simp only [Act.put, List.setIfInBounds_toArray, List.set_cons_zero, List.set_cons_succ]
    rfl
   refine take_ (i := 3) (N := some 24) (v := ?_) (a' := ?_) #[true, true, true, true, false, false, false, false, false, false, false, false, false, false, false] rfl rfl (by kernel_rfl) (fun _ _ _ h => h) (Or.inl ⟨by rfl, ?_⟩) hHeld ?_ ?_
   rotate_left
   ·rintro w' ⟨s0, s1, s2, s3, s4, s5⟩
    go_simp
    with_reducible rfl
   rotate_left
   ·simp only [Act.put, List.setIfInBounds_toArray, List.set_cons_zero, List.set_cons_succ]
    rfl
   refine pure_ (i := 4) (N := some 25) (v := ?_) (a' := ?_) #[true, true, true, true, true, false, false, false, false, false, false, false, false, false, false] rfl rfl (by kernel_rfl) (fun _ _ _ h => h) (Or.inl ⟨by rfl, ?_⟩) ?_ ?_
   rotate_left
   ·intro w'
    go_simp
    with_reducible rfl
   rotate_left
   ·simp only [Act.put, List.setIfInBounds_toArray, List.set_cons_zero, List.set_cons_succ]
    rfl
   refine take_ (i := 5) (N := some 26) (v := ?_) (a' := ?_) #[true, true, true, true, true, true, false, false, false, false, false, false, false, false, false] rfl rfl (by kernel_rfl) (fun _ _ _ h => h) (Or.inl ⟨by rfl, ?_⟩) hHeld ?_ ?_
   rotate_left
   ·rintro w' ⟨s0, s1, s2, s3, s4, s5⟩
    go_simp
    with_reducible rfl
   rotate_left
   ·simp only [Act.put, List.setIfInBounds_toArray, List.set_cons_zero, List.set_cons_succ]
    rfl
   refine pure_ (i := 6) (N := some 27) (v := ?_) (a' := ?_) #[true, true, true, true, true, true, true, false, false, false, false, false, false, false, false] rfl rfl (by kernel_rfl) (fun _ _ _ h => h) (Or.inl ⟨by rfl, ?_⟩) ?_ ?_
   rotate_left
   ·intro w'
    go_simp
    with_reducible rfl
   rotate_left
   ·simp only [Act.put, List.setIfInBounds_toArray, List.set_cons_zero, List.set_cons_succ]
    rfl
   refine pure_ (i := 7) (N := some 28) (v := ?_) (a' := ?_) #[true, true, true, true, true, true, true, true, false, false, false, false, false, false, false] rfl rfl (by kernel_rfl) (fun _ _ _ h => h) (Or.inl ⟨by rfl, ?_⟩) ?_ ?_
   rotate_left
   ·intro w'
    go_simp
    with_reducible rfl
   rotate_left
   ·simp only [Act.put, List.setIfInBounds_toArray, List.set_cons_zero, List.set_cons_succ]
    rfl
   refine take_ (i := 8) (N := some 29) (v := ?_) (a' := ?_) #[true, true, true, true, true, true, true, true, true, false, false, false, false, false, false] rfl rfl (by kernel_rfl) (fun _ _ _ h => h) (Or.inl ⟨by rfl, ?_⟩) hHeld ?_ ?_
   rotate_left
   ·rintro w' ⟨s0, s1, s2, s3, s4, s5⟩
    go_simp
    with_reducible rfl
   rotate_left
   ·simp only [Act.put, List.setIfInBounds_toArray, List.set_cons_zero, List.set_cons_succ]
    rfl
   refine take_ (i := 9) (N := some 30) (v := ?_) (a' := ?_) #[true, true, true, true, true, true, true, true, true, true, false, false, false, false, false] rfl rfl (by kernel_rfl) (fun _ _ _ h => h) (Or.inl ⟨by rfl, ?_⟩) hHeld ?_ ?_
   rotate_left
   ·rintro w' ⟨s0, s1, s2, s3, s4, s5⟩
    go_simp
    with_reducible rfl
   rotate_left
   ·simp only [Act.put, List.setIfInBounds_toArray, List.set_cons_zero, List.set_cons_succ]
    rfl
   refine pure_ (i := 10) (N := some 31) (v := ?_) (a' := ?_) #[true, true, true, true, true, true, true, true, true, true, true, false, false, false, false] rfl rfl (by kernel_rfl) (fun _ _ _ h => h) (Or.inl ⟨by rfl, ?_⟩) ?_ ?_
   rotate_left
   ·intro w'
    go_simp
    with_reducible rfl
   rotate_left
   ·simp only [Act.put, List.setIfInBounds_toArray, List.set_cons_zero, List.set_cons_succ]
    rfl
   refine pure_ (i := 11) (N := some 32) (v := ?_) (a' := ?_) #[true, true, true, true, true, true, true, true, true, true, true, true, false, false, false] rfl rfl (by kernel_rfl) (fun _ _ _ h => h) (Or.inl ⟨by rfl, ?_⟩) ?_ ?_
   rotate_left
   ·intro w'
    go_simp
    with_reducible rfl
   rotate_left
   ·simp only [Act.put, List.setIfInBounds_toArray, List.set_cons_zero, List.set_cons_succ]
    rfl
   refine take_ (i := 12) (N := some 33) (v := ?_) (a' := ?_) #[true, true, true, true, true, true, true, true, true, true, true, true, true, false, false] rfl rfl (by kernel_rfl) (fun _ _ _ h => h) (Or.inl ⟨by rfl, ?_⟩) hHeld ?_ ?_
   rotate_left
   ·rintro w' ⟨s0, s1, s2, s3, s4, s5⟩
    go_simp
    with_reducible rfl
   rotate_left
   ·simp only [Act.put, List.setIfInBounds_toArray, List.set_cons_zero, List.set_cons_succ]
    rfl
   refine pure_ (i := 13) (N := some 34) (v := ?_) (a' := ?_) #[true, true, true, true, true, true, true, true, true, true, true, true, true, true, false] rfl rfl (by kernel_rfl) (fun _ _ _ h => h) (Or.inl ⟨by rfl, ?_⟩) ?_ ?_
   rotate_left
   ·intro w'
    go_simp
    with_reducible rfl
   rotate_left
   ·simp only [Act.put, List.setIfInBounds_toArray, List.set_cons_zero, List.set_cons_succ]
    rfl
   refine last_ (i := 14) (N := none) #[true, true, true, true, true, true, true, true, true, true, true, true, true, true, true] rfl rfl (by kernel_rfl) (by decide) (fun K hK => ?_)
   have z0 : w3.cell? ⟨W.heap.size + 1, 0, none⟩ = some (.int .i64 0) := (blk_cell K1.out 0).trans rfl
   have z1 : w3.cell? ⟨W.heap.size + 1, 1, none⟩ = some (.int .i64 0) := (blk_cell K1.out 1).trans rfl
   have f0 := blk_frozen K1.out 0
   have f1 := blk_frozen K1.out 1
   refine skip_ (w1 := (w3.setCell ⟨W.heap.size + 1, 0, none⟩ (.int .i64 q)).setCell ⟨W.heap.size + 1, 1, none⟩ (.int .i64 pc)) (by rfl) rfl ?_ ?_
   ·go_simp
   refine hK.out _ _ ?_
   clear hK K
   refine done_ (by kernel_rfl) ?_
   go_wp2
   refine bodyPost_ret (v := .agg #[.int .i64 q, .int .i64 pc]) (by simp [results, Tryd.results147, go_sem, z0, z1]) rfl ⟨rfl, ?_⟩
   exact (HD.out.setCell (by simp) _).setCell (by simp) _
  ·rw [if_neg cz] at h'
   obtain rfl := Option.some.inj h'
   have c3 : (bits .andNot .i64 p pc != 0) = true := bne_iff_ne.mpr cz
   have y1 : WE.cell? ⟨W.heap.size, 1, none⟩ = some (.int .i64 p) := (blk_cell k0 1).trans rfl
   have z0 : WE.cell? ⟨W.heap.size + 1, 0, none⟩ = some (.int .i64 0) := (blk_cell k1 0).trans rfl
   have z1 : WE.cell? ⟨W.heap.size + 1, 1, none⟩ = some (.int .i64 0) := (blk_cell k1 1).trans rfl
   have f0 := blk_frozen k1 0
   have f1 := blk_frozen k1 1
   clear h' hx4 hC1 hC2 hCp b1 b2 cz
   go_enter Tryd.func147, Tryd.ntmps147
   go_wp2
   try rw [hWE]
   repeat (go_quiet (fail); try go_wp2)
   refine bodyPost_ret (v := .agg #[.int .i64 0, .int .i64 (-1)]) (by simp [results, Tryd.results147, go_sem, z0, z1]) rfl ⟨rfl, ?_⟩
   exact ((HW _).setCell (by simp) _).setCell (by simp) _
end Go.Proofs.YtbkcllfgolmloaaDoor.X

namespace Go.Proofs.YtbkcllfgolmloaaDoor.X
open Go Go.RowKit Go.Proofs.YtbkcllfgolmloaaDoorW.PrintWords Go.Proofs.YtbkcllfgolmloaaDoorW.PrintLast Go.Proofs.YtbkcllfgolmloaaDoorW.PrintMore
set_option linter.unusedVariables false
set_option linter.unusedSimpArgs false
/-- One state's row: from column c on, m columns. -/
def rrowF (kd : Nat) (tapes size : Int) (rw : List Int) (li : Int) : Nat → Nat → List Int → List Int → List Int → Option (List Int × List Int × List Int)
 | 0, _, nu, l, row => some (nu, l, row)
 | m + 1, c, nu, l, row => (spec_l01Ended.f kd tapes (Int.tmod li size) (c : Int)).bind fun e =>
  if e < 0 then rrowF kd tapes size rw li m (c + 1) nu l (row ++ [-1])
  else (at1 0 rw (c : Int)).bind fun q => (at1 0 nu (wrap64 (wrap64 (q * size) + e))).bind fun x =>
   if x < 0 then (if l.length < 1048576 then rrowF kd tapes size rw li m (c + 1) (nu.set (wrap64 (wrap64 (q * size) + e)).toNat (l.length : Int)) (l ++ [wrap64 (wrap64 (q * size) + e)]) (row ++ [(l.length : Int)]) else none)
   else rrowF kd tapes size rw li m (c + 1) nu l (row ++ [x])
def rmainF (kd : Nat) (tapes size : Int) (W : Nat) (ac : List Bool) (ns : List (List Int)) : Nat → List Int → List Int → List Bool → List (List Int) → Option (List Bool × List (List Int) × List Int)
 | 0, _, _, _, _ => none
 | f + 1, nu, l, bs, rs => match l[bs.length]? with
  | none => some (bs, rs, l)
  | some li => (at1 [] ns (wrap64 (Int.tdiv li size))).bind fun rw => (at1 false ac (wrap64 (Int.tdiv li size))).bind fun a => (rrowF kd tapes size rw li W 0 nu l []).bind fun p => rmainF kd tapes size W ac ns f p.1 p.2.1 (bs ++ [a]) (rs ++ [p.2.2])
def fixRow (dead : Int) (row : List Int) : List Int := row.map fun x => if x < 0 then dead else x
def rightF (kd : Nat) (tapes size : Int) (W N f : Nat) (start : Int) (ac : List Bool) (ns : List (List Int)) : Option (List Bool × List (List Int)) :=
 if 0 ≤ wrap64 (start * size) ∧ wrap64 (start * size) < (N : Int) then
 (rmainF kd tapes size W ac ns f ((List.replicate N (-1)).set (wrap64 (start * size)).toNat 0) [wrap64 (start * size)] [] []).bind fun p =>
  some (p.1 ++ [false], p.2.1.map (fixRow (p.2.2.length : Int)) ++ [List.replicate W (p.2.2.length : Int)])
 else none
theorem neg_step {N i : Nat} (h : i < N) (l : List Int) (hl : l = List.replicate i (-1) ++ List.replicate (N - i) 0) : l.set i (-1) = List.replicate (i + 1) (-1) ++ List.replicate (N - (i + 1)) 0 := by
 subst hl
 rw [show N - i = (N - (i + 1)) + 1 by omega, List.replicate_succ, List.replicate_succ']
 have key : ∀ (a b : List Int) (x y : Int) (n : Nat), a.length = n → (a ++ y :: b).set n x = a ++ x :: b := by
  intro a b x y n hn
  subst hn
  simp
 rw [key _ _ (-1) 0 i (by simp)]
 simp
theorem rd_set_same {l : List Int} {i x : Int} (h0 : 0 ≤ i) (h1 : i < (l.length : Int)) : rd (l.set i.toNat x) i = x := by
 have : i.toNat < l.length := by omega
 simp [rd, List.getD_eq_getElem?_getD, this]
theorem getE_app {α : Type} {l d : List α} {i : Nat} {k : α} (h : l[i]? = some k) : (l ++ d)[i]? = some k := by
 rw [List.getElem?_append_left (List.getElem?_eq_some_iff.1 h).1]; exact h
/-- A list whose first elements are already turned. -/
def partFix {α : Type} (f : α → α) (b : Nat) (l : List α) : List α := (l.take b).map f ++ l.drop b
theorem partFix_len {α : Type} (f : α → α) (b : Nat) (l : List α) : (partFix f b l).length = l.length := by
 simp [partFix]
 omega
theorem partFix_at {α : Type} (f : α → α) {b : Nat} {l : List α} (h : b < l.length) : (partFix f b l)[b]? = some l[b] := by
 have : ((l.take b).map f).length = b := by simp; omega
 rw [partFix, List.getElem?_append_right (by omega), this, Nat.sub_self, List.getElem?_drop, Nat.add_zero, List.getElem?_eq_getElem h]
theorem partFix_set {α : Type} (f : α → α) {b : Nat} {l : List α} (h : b < l.length) (x : α) (hx : x = f l[b]) : (partFix f b l).set b x = partFix f (b + 1) l := by
 have hl : ((l.take b).map f).length = b := by simp; omega
 have e : partFix f (b + 1) l = (l.take b).map f ++ f l[b] :: l.drop (b + 1) := by
  rw [partFix, List.take_succ_eq_append_getElem h, List.map_append]
  simp only [List.map_cons, List.map_nil, List.append_assoc, List.cons_append, List.nil_append]
 have e2 : partFix f b l = (l.take b).map f ++ l[b] :: l.drop (b + 1) := by rw [partFix, List.drop_eq_getElem_cons h]
 have key : ∀ (a b : List α) (x y : α) (n : Nat), a.length = n → (a ++ y :: b).set n x = a ++ x :: b := by
  intro a b x y n hn
  subst hn
  simp
 rw [e, e2, key _ _ x _ b hl, hx]
theorem partFix_same {α : Type} (f : α → α) {b : Nat} {l : List α} (h : b < l.length) (hx : f l[b] = l[b]) : partFix f b l = partFix f (b + 1) l := by
 rw [← partFix_set f h _ rfl, hx]
 refine (List.ext_getElem? fun i => ?_)
 rw [List.getElem?_set]
 by_cases e : b = i
 ·subst e
  rw [if_pos rfl, if_pos (by rw [partFix_len]; exact h), partFix_at f h]
 ·rw [if_neg e]
theorem partFix_all {α : Type} (f : α → α) (l : List α) : partFix f l.length l = l.map f := by simp [partFix]
theorem partFix_zero {α : Type} (f : α → α) (l : List α) : partFix f 0 l = l := by simp [partFix]
def fix1 (dead x : Int) : Int := if x < 0 then dead else x
theorem fixRow_eq (dead : Int) (row : List Int) : fixRow dead row = row.map (fix1 dead) := rfl
theorem set_self {α : Type} {l : List α} {i : Nat} {x : α} (h : l[i]? = some x) : l.set i x = l := by
 refine List.ext_getElem? fun j => ?_
 rw [List.getElem?_set]
 by_cases e : i = j
 ·subst e
  rw [if_pos rfl, if_pos (List.getElem?_eq_some_iff.1 h).1, h]
 ·rw [if_neg e]
def RightPost (w : World) (tapes : Int) (bs : List Bool) (rs : List (List Int)) (e : Ending) (w' : World) : Prop :=
 ∃ va vr, e = .returned (.agg #[.int .i64 tapes, .int .i64 0, va, vr]) ∧ Kd.bool.R 4 w' w.heap.size (fun _ => True) va bs ∧ Kd.S (Kd.slice 2 (Kd.int .i64)) 55 w' w.heap.size (fun _ => True) vr rs ∧ Below w.heap.size w w'
set_option maxHeartbeats 8000000 in
set_option maxRecDepth 100000 in
theorem right_calls {W N f kd kw : Nat} {tapes start size : Int} {ac : List Bool} {ns : List (List Int)} {bs1 : List Bool} {rs1 : List (List Int)} (w : World) (g : Nat) (Aa : Option Addr) (ca : Nat) (An : Option Addr) (cn : Nat)
  (hb : w.heap[g]? = some (.cells #[.int .i64 tapes, .int .i64 start, .slice Aa ac.length ca, .slice An ns.length cn] 28 (0, 0))) (hA : Kd.C Kd.bool w Aa ac.length ac) (hN : Kd.C (Kd.slice 2 (Kd.int .i64)) w An ns.length ns)
  (hw : spec_l01Wide.f kw tapes = some (W : Int)) (hW : W ≤ 1000) (hsz : IntKind.i64.wrap (2 ^ tapes.toNat) = size) (h0 : 0 ≤ tapes) (h3 : tapes ≤ 3) (h1 : 1 ≤ size) (h8 : size ≤ 8) (hn : wrap64 ((ac.length : Int) * size) = (N : Int)) (hN1 : N ≤ 1048576) (hac : ac.length ≤ 1048576) (h : rightF kd tapes size W N f start ac ns = some (bs1, rs1)) :
  Calls Tryd.prog 115 #[.pointer (some ⟨g, 0, none⟩)] w (RightPost w tapes bs1 rs1) := by
 have HG := Aside0.mk hb
 have HA := Aside0.mk hA
 have HN := Aside0.mk hN
 have HW := Aside0.mk hw
 have HSz := Aside0.mk hsz
 have HNn := Aside0.mk hn
 unfold rightF at h
 have hs : 0 ≤ wrap64 (start * size) ∧ wrap64 (start * size) < (N : Int) := by
  by_cases e : 0 ≤ wrap64 (start * size) ∧ wrap64 (start * size) < (N : Int)
  ·exact e
  ·rw [if_neg e] at h; cases h
 rw [if_pos hs] at h
 obtain ⟨⟨bsF, rsF, lF⟩, hmain, h2⟩ := Option.bind_eq_some_iff.mp h
 clear h
 have HS := Aside0.mk hs
 have HM := Aside0.mk hmain
 have HH := Aside0.mk h2
 clear hb hA hN hw hsz hn hs hmain h2
 have HB := Aside0.mk ((Below.refl w.heap.size w).alloc (Nat.le_refl _) (.cells #[.int .i64 0, .int .i64 0, .slice none 0 0, .slice none 0 0] 28))
 have HSp := Aside0.mk (show Sep (fun _ => 4) (w.alloc (.cells #[.int .i64 0, .int .i64 0, .slice none 0 0, .slice none 0 0] 28)) [(4, blkP w.heap.size (.cells #[.int .i64 0, .int .i64 0, .slice none 0 0, .slice none 0 0] 28 (0, 0)))] from ⟨⟨blkP_ok _ _, blk_new w _, rfl⟩, trivial⟩)
 have gb := blk_alloc HG.out (.cells #[.int .i64 0, .int .i64 0, .slice none 0 0, .slice none 0 0] 28)
 have m0 : (w.alloc (.cells #[.int .i64 0, .int .i64 0, .slice none 0 0, .slice none 0 0] 28)).cell? ⟨g, 0, none⟩ = some (.int .i64 tapes) := (blk_cell gb 0).trans rfl
 have m2 : (w.alloc (.cells #[.int .i64 0, .int .i64 0, .slice none 0 0, .slice none 0 0] 28)).cell? ⟨g, 2, none⟩ = some (.slice Aa ac.length ca) := (blk_cell gb 2).trans rfl
 clear gb
 have hN8 := Aside0.mk (show (N : Int).toNat * 8 ≤ 281474976710656 by omega)
 have hN0 := Aside0.mk (show (0 : Int) ≤ (N : Int) by omega)
 have hq := Aside0.mk (show w.heap.size + 1 ≤ (w.alloc (.cells #[.int .i64 0, .int .i64 0, .slice none 0 0, .slice none 0 0] 28)).heap.size by simp)
 have c0 : (0 ≤ (N : Int)) = True := eq_true (by omega)
 go_enter Tryd.func115, Tryd.ntmps115
 have hsz := HSz.out
 go_wp2_with (first | ((with_reducible refine gate_dst (N := 34) rfl ?_); refine Kd.R_make (Kd.int .i64) (w0 := w) w.heap.size 2 rfl (N := 34) rfl 55 _ _ rfl (wrap64 ((ac.length : Int) * size)) rfl rfl Tryd.underlying55 (.int .i64 0) 8 info2 rfl (by decide) (by decide) 0 (ok := fun k => w.heap.size + 1 ≤ k) (okp := fun _ => False) rfl (fun _ hk => hk.elim) hq.out (by rw [HNn.out]; exact hN0.out) (by rw [HNn.out]; exact hN8.out) HB.out HB.out.size ?_; intro v34 w4 ho hb hg_ hnew_; rw [HNn.out] at ho; obtain ⟨A34, c34, hv34⟩ := Kd.R_slice ho; subst hv34; have HO := Aside0.mk ho; have HG4 := Aside0.mk hg_; have HB4 := Aside0.mk hb; clear hg_ hnew_ ho hb))
 have HS2 := Aside0.mk (HSp.out.new (t := 1) (below_of_grown HG4.out) (rowP_ok (Kd.int .i64) 2 w.heap.size (.slice A34 N c34) (List.replicate N 0)) (by have h_ := HO.out; simp only [List.length_replicate, Int.toNat_natCast] at h_; exact Kd.R_mono h_ (fun k hk => by simpa using hk)) rfl)
 simp only [List.cons_append, List.nil_append] at HS2
 clear HSp HB HO HG4 m0 m2 hq hN0 hN8 c0
 go_loopg [6] N (fun kq v6 w' => ∃ (own : Nat → Nat) (i : Nat) (nu : List Int), v6 = .int .i64 (i : Int) ∧ Aside0 (i + kq = N) ∧ Aside0 (nu = List.replicate i (-1) ++ List.replicate (N - i) 0) ∧ Aside0 (Below w.heap.size w w') ∧ Aside0 (Sep own w' [(4, blkP w.heap.size (.cells #[.int .i64 0, .int .i64 0, .slice none 0 0, .slice none 0 0] 28 (0, 0))), (1, rowP (Kd.int .i64) 2 w.heap.size (.slice A34 N c34) nu)]))
 case atStart => exact ⟨_, 0, List.replicate N 0, rfl, ⟨by omega⟩, ⟨by simp⟩, HB4, HS2⟩
 case round =>
  clear HS2 HB4
  obtain ⟨own, i, nu, rfl, HK, HE, HB, HSp⟩ := hrel
  cases gk with
  | zero =>
   have hi : i = N := by have := HK.out; omega
   subst hi
   have hnu : nu = List.replicate i (-1) := by have h_ := HE.out; simpa using h_
   have c1 : decide ((i : Int) < (i : Int)) = false := decide_eq_false (by omega)
   have c2 : decide (i < i) = false := decide_eq_false (by omega)
   subst hnu
   clear HE HK
   have hs := HS.out
   obtain ⟨gN, cN, hv, hcN, hfN⟩ := HSp.out.int 1 rfl (wrap64 (start * size)) hs.1 (by simpa using hs.2)
   simp only [Value.slice.injEq] at hv
   obtain ⟨hv1, -, hv2⟩ := hv
   subst hv1
   subst hv2
   have gb := blk_below HG.out HB.out
   have m1 : wr.cell? ⟨g, 1, none⟩ = some (.int .i64 start) := (blk_cell gb 1).trans rfl
   have hbase := Kd.R_base (HSp.out.get (i := 1) rfl) gN rfl
   have hb1 : Below wr.heap.size wr (wr.alloc (.cells #[.int .i64 (wrap64 (start * size))] 2)) := (Below.refl _ _).alloc (Nat.le_refl _) _
   have m1' := pw_cell_below hb1 m1
   have hcN' := pw_cell_below hb1 hcN
   have hfN' : (wr.alloc (.cells #[.int .i64 (wrap64 (start * size))] 2)).frozen? ⟨gN, (wrap64 (start * size)).toNat, none⟩ = false := by
    rw [hb1.frozen (p := ⟨gN, _, none⟩) (Kd.R_lt (HSp.out.get (i := 1) rfl) gN rfl)]
    exact hfN
   have HS1 := Aside0.mk ((HSp.out.new (t := 2) hb1 (rowP_ok (Kd.int .i64) 2 w.heap.size (.slice (some ⟨wr.heap.size, 0, none⟩) 1 1) [wrap64 (start * size)]) (R_one (d := Kd.int .i64) wr (wrap64 (start * size)) [.int .i64 (wrap64 (start * size))] _ rfl rfl HB.out.size (Nat.le_refl _)) rfl).setInt 1 rfl (wrap64 (start * size)) 0 rfl)
   have HB1 := Aside0.mk ((HB.out.alloc HB.out.size (.cells #[.int .i64 (wrap64 (start * size))] 2)).setCell (p := ⟨gN, (wrap64 (start * size)).toNat, none⟩) hbase (.int .i64 0))
   have gb1 := blk_below HG.out HB1.out
   have m0 : ((wr.alloc (.cells #[.int .i64 (wrap64 (start * size))] 2)).setCell ⟨gN, (wrap64 (start * size)).toNat, none⟩ (.int .i64 0)).cell? ⟨g, 0, none⟩ = some (.int .i64 tapes) := (blk_cell gb1 0).trans rfl
   have s0 := eq_true hs.1
   have s1 := eq_true hs.2
   clear gb hs hb1 hcN hfN gb1 hbase
   go_wp2
   have hsz1 : ((wr.alloc (.cells #[.int .i64 (wrap64 (start * size))] 2)).setCell ⟨gN, (wrap64 (start * size)).toNat, none⟩ (.int .i64 0)).heap.size = wr.heap.size + 1 := by simp
   have hob := Aside0.mk (show w.heap.size + 1 ≤ wr.heap.size + 1 by have := HB.out.size; omega)
   have HS2 := Aside0.mk (((HS1.out.new (t := 5) ((Below.refl _ _).alloc (Nat.le_refl _) (.cells #[.int .i64 tapes, .int .i64 0, .slice none 0 0, .slice none 0 0] 28)) (blkP_ok (wr.heap.size + 1) (.cells #[.int .i64 tapes, .int .i64 0, .slice none 0 0, .slice none 0 0] 28 (0, 0))) (by rw [← hsz1]; exact ⟨blk_new _ _, Nat.le_refl _⟩) rfl).snoc (t := 6) (rowP_ok Kd.bool 4 w.heap.size (.slice none 0 0) []) (Kd.R_nil _ _ _ _ _)).snoc (t := 7) (rowsP_ok (Kd.slice 2 (Kd.int .i64)) 55 w.heap.size (.slice none 0 0) []) (Kd.S_nil _ _ _ _ _))
   have HB2 := Aside0.mk (HB1.out.alloc HB1.out.size (.cells #[.int .i64 tapes, .int .i64 0, .slice none 0 0, .slice none 0 0] 28))
   simp only [List.cons_append, List.nil_append, List.set_cons_succ, List.set_cons_zero] at HS2
   have hnl := Aside0.mk (show ((List.replicate i (-1 : Int)).set (wrap64 (start * size)).toNat 0).length = i by simp)
   clear HS1 HB1 HSp HB m0 m1 m1' hcN' hfN' hsz1 s0 s1 c1 c2
   generalize (World.alloc (World.setCell _ _ _) _) = W1 at HS2 HB2 ⊢
   generalize wr.heap.size + 1 = ob at HS2 hob ⊢
   generalize (Value.slice (some ⟨wr.heap.size, 0, none⟩) 1 1) = v7 at HS2 ⊢
   generalize (List.replicate i (-1 : Int)).set (wrap64 (start * size)).toNat 0 = nu at HS2 HM hnl
   try clear wr
   go_loopg [7, 9] f (fun kq v7 v9 w' => ∃ (own : Nat → Nat) (nu l : List Int) (va : Value) (bs : List Bool) (vr : Value) (rs : List (List Int)), v9 = .int .i64 (bs.length : Int) ∧ Aside0 (Below w.heap.size w w') ∧ Aside0 (Sep own w' [(4, blkP w.heap.size (.cells #[.int .i64 0, .int .i64 0, .slice none 0 0, .slice none 0 0] 28 (0, 0))), (1, rowP (Kd.int .i64) 2 w.heap.size (.slice (some ⟨gN, 0, none⟩) i c34) nu), (2, rowP (Kd.int .i64) 2 w.heap.size v7 l), (5, blkP ob (.cells #[.int .i64 tapes, .int .i64 0, va, vr] 28 (0, 0))), (6, rowP Kd.bool 4 w.heap.size va bs), (7, rowsP (Kd.slice 2 (Kd.int .i64)) 55 w.heap.size vr rs)]) ∧ Aside0 (rmainF kd tapes size W ac ns kq nu l bs rs = some (bsF, rsF, lF)) ∧ Aside0 (rs.length = bs.length ∧ nu.length = i ∧ l.length ≤ 1048576 ∧ bs.length ≤ l.length ∧ ∀ r_ ∈ rs, r_.length = W))
   case atStart => exact ⟨_, nu, [wrap64 (start * size)], _, [], _, [], rfl, HB2, HS2, HM, ⟨rfl, hnl.out, by simp, by simp, by simp⟩⟩
   case round =>
    clear HB2 HS2 HM hnl
    obtain ⟨own, nu, l, va, bs, vr, rs, rfl, HB, HSp, HM, HLn⟩ := hrel
    cases gk with
    | zero => exact absurd HM.out (by simp [rmainF])
    | succ k1 =>
     have hm := HM.out
     clear HM
     simp only [rmainF] at hm
     cases hk : l[bs.length]? with
     | none =>
      rw [hk] at hm
      have hle : l.length ≤ bs.length := List.getElem?_eq_none_iff.1 hk
      obtain ⟨rfl, rfl, rfl⟩ : bs = bsF ∧ rs = rsF ∧ l = lF := by simpa using hm
      have c1 : decide ((bs.length : Int) < (l.length : Int)) = false := decide_eq_false (by omega)
      have c2 : decide (bs.length < l.length) = false := decide_eq_false (by omega)
      obtain ⟨A7, c7, hv7⟩ := Kd.R_slice (HSp.out.get (i := 2) rfl)
      subst hv7
      have HLe := Aside0.mk hle
      clear hm hk hle
      go_wp2
      have HSp2 := Aside0.mk ((HSp.out.drop 1).drop 1)
      simp only [List.eraseIdx_cons_succ, List.eraseIdx_cons_zero] at HSp2
      clear HSp c1 c2
      obtain ⟨Ar, cr, hvr⟩ := Kd.S_slice (HSp2.out.get (i := 3) rfl)
      subst hvr
      have hrl : rs.length < 1048577 := by have h1_ := HLn.out; have h2_ := HLe.out; omega
      go_loopg [16] rs.length (fun kq v16 w' => ∃ a : Nat, v16 = .int .i64 (a : Int) ∧ Aside0 (a + kq = rs.length) ∧ Aside0 (Below w.heap.size w w') ∧ Aside0 (Sep own w' [(4, blkP w.heap.size (.cells #[.int .i64 0, .int .i64 0, .slice none 0 0, .slice none 0 0] 28 (0, 0))), (5, blkP ob (.cells #[.int .i64 tapes, .int .i64 0, va, .slice Ar rs.length cr] 28 (0, 0))), (6, rowP Kd.bool 4 w.heap.size va bs), (7, rowsP (Kd.slice 2 (Kd.int .i64)) 55 w.heap.size (.slice Ar rs.length cr) (partFix (fixRow (l.length : Int)) a rs))]))
      case atStart => exact ⟨0, by simp, ⟨by omega⟩, HB, ⟨by rw [partFix_zero]; exact HSp2.out⟩⟩
      case round =>
       clear HB HSp2
       obtain ⟨a, rfl, HK, HB, HSp⟩ := hrel
       have m3 : wr.cell? ⟨ob, 3, none⟩ = some (.slice Ar rs.length cr) := (blk_cell (HSp.out.get (i := 1) rfl).1 3).trans rfl
       cases gk with
       | zero =>
        have ha : a = rs.length := by have := HK.out; omega
        subst ha
        have c1 : decide ((rs.length : Int) < (rs.length : Int)) = false := decide_eq_false (by omega)
        have c2 : decide (rs.length < rs.length) = false := decide_eq_false (by omega)
        rw [partFix_all] at HSp
        clear HK
        have gb := blk_below HG.out HB.out
        have m0 : wr.cell? ⟨g, 0, none⟩ = some (.int .i64 tapes) := (blk_cell gb 0).trans rfl
        go_wp2
        have hb1 : Below wr.heap.size wr (wr.alloc (.cells #[] 2)) := (Below.refl _ _).alloc (Nat.le_refl _) _
        have HS1 := Aside0.mk (HSp.out.new (t := 3) hb1 (rowP_ok (Kd.int .i64) 2 w.heap.size (.slice (some ⟨wr.heap.size, 0, none⟩) 0 0) []) (R_empty (Kd.int .i64) 2 w.heap.size wr _ HB.out.size (Nat.le_refl _)) rfl)
        have HB1 := Aside0.mk (below_then HB.out HB.out.size hb1)
        simp only [List.cons_append, List.nil_append] at HS1
        clear hb1 HSp HB gb m0 m3 c1 c2
        go_loopg [18, 19] W (fun kq v18 v19 w' => ∃ (own : Nat → Nat) (c : Nat), v19 = .int .i64 (c : Int) ∧ Aside0 (c + kq = W) ∧ Aside0 (Below w.heap.size w w') ∧ Aside0 (Sep own w' [(4, blkP w.heap.size (.cells #[.int .i64 0, .int .i64 0, .slice none 0 0, .slice none 0 0] 28 (0, 0))), (5, blkP ob (.cells #[.int .i64 tapes, .int .i64 0, va, .slice Ar rs.length cr] 28 (0, 0))), (6, rowP Kd.bool 4 w.heap.size va bs), (7, rowsP (Kd.slice 2 (Kd.int .i64)) 55 w.heap.size (.slice Ar rs.length cr) (rs.map (fixRow (l.length : Int)))), (3, rowP (Kd.int .i64) 2 w.heap.size v18 (List.replicate c (l.length : Int)))]))
        case atStart => exact ⟨_, 0, rfl, ⟨by omega⟩, HB1, HS1⟩
        case round =>
         clear HB1 HS1
         obtain ⟨own, c, rfl, HK, HB, HSp⟩ := hrel
         have gb := blk_below HG.out HB.out
         have m0 : wr.cell? ⟨g, 0, none⟩ = some (.int .i64 tapes) := (blk_cell gb 0).trans rfl
         clear gb
         have hlt1 : l.length ≤ 1048576 := HLn.out.2.2.1
         cases gk with
         | zero =>
          have hc : c = W := by have := HK.out; omega
          subst hc
          have c1 : decide ((c : Int) < (c : Int)) = false := decide_eq_false (by omega)
          have c2 : decide (c < c) = false := decide_eq_false (by omega)
          go_wp2_with (fail)
          with_reducible refine (spec_l01Wide.calls kw tapes (c : Int) _ HW.out).mono ?_
          rintro e w5 ⟨rfl, hd5⟩
          obtain ⟨m5, hw5⟩ := hd5.out
          have hb5 := pw_below_drewN (Below.refl wr.heap.size wr) m5
          rw [← hw5] at hb5
          have HSp5 := Aside0.mk (HSp.out.below hb5)
          have HB5 := Aside0.mk (below_then HB.out HB.out.size hb5)
          clear hw5 hb5 hd5 m0 HSp HB HK
          obtain ⟨A6, c6, hv6⟩ := Kd.R_slice (HSp5.out.get (i := 2) rfl)
          subst hv6
          obtain ⟨A18, c18, hv18⟩ := Kd.R_slice (HSp5.out.get (i := 4) rfl)
          rw [List.length_replicate] at hv18
          subst hv18
          have m2 : w5.cell? ⟨ob, 2, none⟩ = some (.slice A6 bs.length c6) := (blk_cell (HSp5.out.get (i := 1) rfl).1 2).trans rfl
          have hbl : bs.length ≤ 1048576 := by have := HLn.out.2.2.2.1; omega
          have hba : Below w5.heap.size w5 (w5.alloc (.cells #[.bool false] 4)) := (Below.refl _ _).alloc (Nat.le_refl _) _
          go_upto_region 44 with (first | ((with_reducible refine gate_builtin (b := .append) (xs := #[.tmp 207, .tmp 208]) rfl ?_); at_builtin; refine Kd.R_append Kd.bool (w0 := w) w.heap.size rfl (.tmp 207) (.tmp 208) 22 4 (.bool false) 1 rfl Tryd.underlying22 info4 rfl (by decide) (by decide) (.slice A6 bs.length c6) bs false [.bool false] _ (fun _ => False) rfl rfl ?aP (fun _ hk => hk.elim) ?aF (HSp5.out.rowTag 2 rfl) ?aB ?aS ?aL ?_; (case aP => exact rfl); (case aF => exact (fun _ hk => retag_ge hk)); (case aB => exact HB5.out); (case aS => exact HB5.out.size); (case aL => omega); intro v6 w6 ho hb hg hat; obtain ⟨A7, c7_, hv7⟩ := Kd.R_slice ho; subst hv7; have HSp6 := Aside0.mk (HSp5.out.appended 2 rfl ho hg rfl); have HB6 := Aside0.mk hb; simp only [List.set_cons_succ, List.set_cons_zero] at HSp6; have k2 : w6.cell? ⟨ob, 2, none⟩ = some (.slice A6 bs.length c6) := (blk_cell (HSp6.out.get (i := 1) rfl).1 2).trans rfl; have f2 := blk_frozen (HSp6.out.get (i := 1) rfl).1 2; clear ho hb hg hat HSp5 HB5 m2))
          have HSp7 := Aside0.mk (HSp6.out.setBlk 1 rfl 2 (.slice A7 (bs ++ [false]).length c7_) rfl rfl)
          have HB7 := Aside0.mk (HB6.out.setCell (p := ⟨ob, 2, none⟩) (by have := hob.out; show w.heap.size ≤ ob; omega) (.slice A7 (bs ++ [false]).length c7_))
          simp only [List.set_cons_succ, List.set_cons_zero] at HSp7
          rw [show (bs ++ [false]).length = bs.length + 1 by simp] at HSp7 HB7
          try rw [show (bs ++ [false]).length = bs.length + 1 by simp]
          clear HSp6 HB6 k2 f2 hba
          generalize w6.setCell _ _ = w7 at HSp7 HB7 ⊢
          have m3 : w7.cell? ⟨ob, 3, none⟩ = some (.slice Ar rs.length cr) := (blk_cell (HSp7.out.get (i := 1) rfl).1 3).trans rfl
          have HSp8 := Aside0.mk (HSp7.out.drop 4)
          have HRw3 := Aside0.mk (HSp7.out.rowTag2 4 rfl 7)
          simp only [List.eraseIdx_cons_succ, List.eraseIdx_cons_zero] at HSp8
          clear HSp7
          have hml : (rs.map (fixRow (l.length : Int))).length = rs.length := by simp
          have HML := Aside0.mk hml
          clear hml
          go_upto_region 45 with (first | ((with_reducible refine gate_builtin (b := .append) (xs := #[.tmp 212, .tmp 214]) rfl ?_); at_builtin; refine Kd.S_append (Kd.slice 2 (Kd.int .i64)) (w0 := w) w.heap.size rfl (.tmp 212) (.tmp 214) 23 55 (.slice none 0 0) 24 rfl Tryd.underlying23 info55 rfl (by decide) (by decide) (.slice Ar rs.length cr) (rs.map (fixRow (l.length : Int))) (List.replicate c (l.length : Int)) [.slice A18 c c18] _ _ rfl rfl ?aP ?aK ?aF (HSp8.out.rowsTag (u := 3) 3 rfl (by decide)) ?aB ?aS ?aL ?_; (case aP => exact ⟨_, rfl, HRw3.out⟩); (case aK => intro k hk; exact ⟨Or.inr hk, fun he => by have h_ := (Kd.S_R (HSp8.out.rowsTag (u := 3) 3 rfl (by decide))).1 k he.symm; exact h_.2 hk⟩); (case aF => exact (fun _ hk => Or.inl (retag_ge hk))); (case aB => exact HB7.out); (case aS => exact HB7.out.size); (case aL => have := HML.out; omega); intro v8 w8 ho hb hg hat; obtain ⟨A10, c10, hv10⟩ := Kd.S_slice ho; subst hv10; have HSp9 := Aside0.mk (HSp8.out.appendedRows (u := 3) 3 rfl ho hg rfl rfl); simp only [List.set_cons_succ, List.set_cons_zero] at HSp9; have HB9 := Aside0.mk hb; have m8 : w8.cell? ⟨ob, 3, none⟩ = some (.slice Ar rs.length cr) := (blk_cell (HSp9.out.get (i := 1) rfl).1 3).trans rfl; have f8 := blk_frozen (HSp9.out.get (i := 1) rfl).1 3; clear ho hb hg hat HSp8 HRw3 m3 HB7))
          have HSpA := Aside0.mk (HSp9.out.setBlk 1 rfl 3 (.slice A10 (rs.map (fixRow (l.length : Int)) ++ [List.replicate c (l.length : Int)]).length c10) rfl rfl)
          have HBA := Aside0.mk (HB9.out.setCell (p := ⟨ob, 3, none⟩) (by have := hob.out; show w.heap.size ≤ ob; omega) (.slice A10 (rs.map (fixRow (l.length : Int)) ++ [List.replicate c (l.length : Int)]).length c10))
          simp only [List.set_cons_succ, List.set_cons_zero] at HSpA
          have hlen : (rs.map (fixRow (l.length : Int)) ++ [List.replicate c (l.length : Int)]).length = rs.length + 1 := by simp
          rw [hlen] at HSpA HBA
          clear HSp9 HB9 m8 f8 hlen
          generalize w8.setCell _ _ = w9 at HSpA HBA ⊢
          have b9 := (HSpA.out.get (i := 1) rfl).1
          have r9 := (HSpA.out.get (i := 0) rfl).1
          have g0 : w9.cell? ⟨ob, 0, none⟩ = some (.int .i64 tapes) := (blk_cell b9 0).trans rfl
          have g1 : w9.cell? ⟨ob, 1, none⟩ = some (.int .i64 0) := (blk_cell b9 1).trans rfl
          have g2 : w9.cell? ⟨ob, 2, none⟩ = some (.slice A7 (bs.length + 1) c7_) := (blk_cell b9 2).trans rfl
          have g3 : w9.cell? ⟨ob, 3, none⟩ = some (.slice A10 (rs.length + 1) c10) := (blk_cell b9 3).trans rfl
          have n0 : w9.cell? ⟨w.heap.size, 0, none⟩ = some (.int .i64 0) := (blk_cell r9 0).trans rfl
          have n1 : w9.cell? ⟨w.heap.size, 1, none⟩ = some (.int .i64 0) := (blk_cell r9 1).trans rfl
          have n2 : w9.cell? ⟨w.heap.size, 2, none⟩ = some (.slice none 0 0) := (blk_cell r9 2).trans rfl
          have n3 : w9.cell? ⟨w.heap.size, 3, none⟩ = some (.slice none 0 0) := (blk_cell r9 3).trans rfl
          have f0 := blk_frozen r9 0
          have f1 := blk_frozen r9 1
          have f2 := blk_frozen r9 2
          have f3 := blk_frozen r9 3
          have HRA := Aside0.mk (R_set4 (HSpA.out.get (i := 2) rfl) r9 (by decide) (.int .i64 tapes) (.int .i64 0) (.slice A7 (bs.length + 1) c7_) (.slice A10 (rs.length + 1) c10))
          have HRB := Aside0.mk (S_set4 (HSpA.out.get (i := 3) rfl) r9 (by decide) (.int .i64 tapes) (.int .i64 0) (.slice A7 (bs.length + 1) c7_) (.slice A10 (rs.length + 1) c10))
          have HBB := Aside0.mk (below_set4 HBA.out (Nat.le_refl _) (.int .i64 tapes) (.int .i64 0) (.slice A7 (bs.length + 1) c7_) (.slice A10 (rs.length + 1) c10))
          obtain ⟨e1, e2⟩ := Prod.mk.inj (Option.some.inj HH.out)
          try simp only at e1 e2
          have HE1 := Aside0.mk e1
          have HE2 := Aside0.mk e2
          clear e1 e2 b9 r9 HSpA HBA
          go_wp2
          refine bodyPost_ret (v := .agg #[.int .i64 tapes, .int .i64 0, .slice A7 (bs.length + 1) c7_, .slice A10 (rs.length + 1) c10]) (by simp [results, Tryd.results115, go_sem, n0, n1, n2, n3]) rfl ⟨_, _, rfl, by rw [← HE1.out]; exact Kd.R_mono HRA.out (fun _ _ => trivial), by rw [← HE2.out]; exact Kd.S_mono HRB.out (fun _ _ => trivial), HBB.out⟩
         | succ k1 =>
          have hc : c < W := by have := HK.out; omega
          have c1 : decide ((c : Int) < (W : Int)) = true := decide_eq_true (by omega)
          have c2 : decide (c < W) = true := decide_eq_true (by omega)
          have hc1000 : c < 1000 := by omega
          go_wp2_with (fail)
          with_reducible refine (spec_l01Wide.calls kw tapes (W : Int) _ HW.out).mono ?_
          rintro e w5 ⟨rfl, hd5⟩
          obtain ⟨m5, hw5⟩ := hd5.out
          have hb5 := pw_below_drewN (Below.refl wr.heap.size wr) m5
          rw [← hw5] at hb5
          have HSp6 := Aside0.mk (HSp.out.below hb5)
          have HB6 := Aside0.mk (below_then HB.out HB.out.size hb5)
          clear hw5 hb5 hd5 m0 HSp HB
          obtain ⟨A18, c18, hv18⟩ := Kd.R_slice (HSp6.out.get (i := 4) rfl)
          subst hv18
          go_wp2_with (first | ((with_reducible refine gate_builtin (b := .append) (xs := #[.tmp 202, .tmp 204]) rfl ?_); at_builtin; refine Kd.R_append (Kd.int .i64) (w0 := w) w.heap.size rfl (.tmp 202) (.tmp 204) 55 2 (.int .i64 0) 8 rfl Tryd.underlying55 info2 rfl (by decide) (by decide) (.slice A18 (List.replicate c (l.length : Int)).length c18) (List.replicate c (l.length : Int)) (l.length : Int) [.int .i64 (l.length : Int)] _ (fun _ => False) (by first | rfl | (simp; rfl)) rfl ?aP (fun _ hk => hk.elim) ?aF (HSp6.out.rowTag 4 rfl) ?aB ?aS ?aL ?_; (case aP => exact rfl); (case aF => exact (fun _ hk => retag_ge hk)); (case aB => exact HB6.out); (case aS => exact HB6.out.size); (case aL => simp; omega); intro v_r w_r ho hb hg hat; have HSp_r := Aside0.mk (HSp6.out.appended 4 rfl ho hg rfl); have HB_r := Aside0.mk hb; simp only [List.set_cons_succ, List.set_cons_zero] at HSp_r; clear ho hb hg hat HSp6 HB6))
          go_roundg k1
          case measure => omega
          case rel => exact ⟨_, c + 1, by go_num, ⟨by have := HK.out; omega⟩, HB_r, by rw [List.replicate_succ']; exact HSp_r⟩
       | succ k1 =>
        have ha : a < rs.length := by have := HK.out; omega
        have c1 : decide ((a : Int) < (rs.length : Int)) = true := decide_eq_true (by omega)
        have c2 : decide (a < rs.length) = true := decide_eq_true (by omega)
        go_wp2
        clear m3 c1 c2
        have HR := Aside0.mk (show partFix (fixRow (l.length : Int)) a rs = (partFix (fixRow (l.length : Int)) a rs).set a (partFix (fix1 (l.length : Int)) 0 rs[a]) by rw [partFix_zero]; exact (set_self (partFix_at _ ha)).symm)
        go_loopg [17] rs[a].length (fun kq v17 w' => ∃ b : Nat, v17 = .int .i64 (b : Int) ∧ Aside0 (b + kq = rs[a].length) ∧ Aside0 (Below w.heap.size w w') ∧ Aside0 (Sep own w' [(4, blkP w.heap.size (.cells #[.int .i64 0, .int .i64 0, .slice none 0 0, .slice none 0 0] 28 (0, 0))), (5, blkP ob (.cells #[.int .i64 tapes, .int .i64 0, va, .slice Ar rs.length cr] 28 (0, 0))), (6, rowP Kd.bool 4 w.heap.size va bs), (7, rowsP (Kd.slice 2 (Kd.int .i64)) 55 w.heap.size (.slice Ar rs.length cr) ((partFix (fixRow (l.length : Int)) a rs).set a (partFix (fix1 (l.length : Int)) b rs[a])))]))
        case atStart => exact ⟨0, by simp, ⟨by omega⟩, HB, ⟨by rw [← HR.out]; exact HSp.out⟩⟩
        case round =>
         clear HB HSp HR
         obtain ⟨b, rfl, HKb, HB, HSp⟩ := hrel
         have hll : ((partFix (fixRow (l.length : Int)) a rs).set a (partFix (fix1 (l.length : Int)) b rs[a])).length = rs.length := by rw [List.length_set, partFix_len]
         have hra : rowAt ((partFix (fixRow (l.length : Int)) a rs).set a (partFix (fix1 (l.length : Int)) b rs[a])) (a : Int) = partFix (fix1 (l.length : Int)) b rs[a] := by
          simp [rowAt, List.getD_eq_getElem?_getD, List.getElem?_set, partFix_len, ha]
         obtain ⟨gq, cq, v2, hv, hcell, ⟨Av, cv, hv2⟩, hrest⟩ := rows_cell (HSp.out.get (i := 3) rfl) (a : Int) (by omega) (by rw [hll]; omega)
         rw [hra] at hv2 hrest
         simp only [Value.slice.injEq] at hv
         obtain ⟨hva, -, hvc⟩ := hv
         subst hva
         subst hvc
         subst hv2
         rw [partFix_len] at hcell hrest
         simp only [Int.toNat_natCast] at hcell
         have m3 : wr.cell? ⟨ob, 3, none⟩ = some (.slice (some ⟨gq, 0, none⟩) rs.length cr) := (blk_cell (HSp.out.get (i := 1) rfl).1 3).trans rfl
         have p1 : (a < rs.length) = True := eq_true ha
         cases gk with
         | zero =>
          have hb : b = rs[a].length := by have := HKb.out; omega
          subst hb
          have c1 : decide ((rs[a].length : Int) < (rs[a].length : Int)) = false := decide_eq_false (by omega)
          have c2 : decide (rs[a].length < rs[a].length) = false := decide_eq_false (by omega)
          have HE := Aside0.mk (show (partFix (fixRow (l.length : Int)) a rs).set a (partFix (fix1 (l.length : Int)) rs[a].length rs[a]) = partFix (fixRow (l.length : Int)) (a + 1) rs by rw [partFix_all, ← fixRow_eq]; exact partFix_set _ ha _ rfl)
          clear hrest hll hra HKb
          go_wp2
          go_roundg k1
          case measure => omega
          case rel => exact ⟨a + 1, by go_num, ⟨by have := HK.out; omega⟩, HB, ⟨by rw [← HE.out]; exact HSp.out⟩⟩
         | succ k2 =>
          have hb : b < rs[a].length := by have := HKb.out; omega
          have c1 : decide ((b : Int) < (rs[a].length : Int)) = true := decide_eq_true (by omega)
          have c2 : decide (b < rs[a].length) = true := decide_eq_true (by omega)
          obtain ⟨g2, cq2, hv, hc2, hf2, hok2, hba2, hset⟩ := hrest (b : Int) (by omega) (by omega)
          simp only [Value.slice.injEq] at hv
          obtain ⟨hva, -, hvc⟩ := hv
          subst hva
          subst hvc
          have erd : rd (partFix (fix1 (l.length : Int)) b rs[a]) (b : Int) = rs[a][b] := by
           have h_ := partFix_at (fix1 (l.length : Int)) hb
           simp [rd, List.getD_eq_getElem?_getD, h_]
          rw [erd] at hc2
          simp only [Int.toNat_natCast] at hc2 hf2 hset
          have q1 : (b < rs[a].length) = True := eq_true hb
          have hrb : rs[a].length < 1048577 := by have h_ := HLn.out.2.2.2.2 rs[a] (List.getElem_mem ha); omega
          by_cases hx : rs[a][b] < 0
          ·have d2 : decide (rs[a][b] < 0) = true := decide_eq_true hx
           have HE := Aside0.mk (show (partFix (fix1 (l.length : Int)) b rs[a]).set b (l.length : Int) = partFix (fix1 (l.length : Int)) (b + 1) rs[a] from partFix_set _ hb _ (by unfold fix1; rw [if_pos hx]))
           have hS2 := hset (l.length : Int)
           have HSp2 := Aside0.mk (HSp.out.setRows 3 rfl (p := ⟨g2, b, none⟩) hok2 hS2 rfl)
           have HB2 := Aside0.mk (HB.out.setCell (p := ⟨g2, b, none⟩) hba2 (.int .i64 (l.length : Int)))
           simp only [List.set_cons_succ, List.set_cons_zero, List.set_set, Int.toNat_natCast] at HSp2
           rw [HE.out] at HSp2
           generalize rs[a][b] = x at hc2 d2
           clear hrest hset hS2 hra hll erd hx HE HSp HB hba2 hok2
           go_wp2
           go_roundg k2
           case measure => omega
           case rel => exact ⟨b + 1, by go_num, ⟨by have := HKb.out; omega⟩, HB2, HSp2⟩
          ·have d2 : decide (rs[a][b] < 0) = false := decide_eq_false hx
           have HE := Aside0.mk (show partFix (fix1 (l.length : Int)) b rs[a] = partFix (fix1 (l.length : Int)) (b + 1) rs[a] from partFix_same _ hb (by unfold fix1; rw [if_neg hx]))
           have HSp2 := Aside0.mk HSp.out
           rw [HE.out] at HSp2
           generalize rs[a][b] = x at hc2 d2
           clear hrest hset hra hll erd hx HE HSp hba2 hok2
           go_wp2
           go_roundg k2
           case measure => omega
           case rel => exact ⟨b + 1, by go_num, ⟨by have := HKb.out; omega⟩, HB, HSp2⟩
     | some li =>
      --CUT main
      rw [hk] at hm
      simp only [] at hm
      obtain ⟨rw_, hrw, hm1⟩ := Option.bind_eq_some_iff.mp hm
      obtain ⟨a_, ha, hm2⟩ := Option.bind_eq_some_iff.mp hm1
      obtain ⟨⟨nu1, l1, row1⟩, hrow, hm3⟩ := Option.bind_eq_some_iff.mp hm2
      clear hm hm1 hm2
      have hlt : bs.length < l.length := (List.getElem?_eq_some_iff.1 hk).1
      have c1 : decide ((bs.length : Int) < (l.length : Int)) = true := decide_eq_true (by omega)
      have c2 : decide (bs.length < l.length) = true := decide_eq_true (by omega)
      obtain ⟨gL, cL, hv, hcL, hfL⟩ := HSp.out.int 2 rfl (bs.length : Int) (by omega) (by omega)
      subst hv
      simp only [Int.toNat_natCast] at hcL hfL
      have eli : rd l (bs.length : Int) = li := by simp [rd, List.getD_eq_getElem?_getD, hk]
      rw [eli] at hcL
      have HRw := Aside0.mk hrw
      have HAc := Aside0.mk ha
      have HRow := Aside0.mk hrow
      have HM3 := Aside0.mk hm3
      have HLi := Aside0.mk hk
      have hbl : bs.length < 1048576 := by have := HLn.out.2.2.1; omega
      have p1 : (bs.length < l.length) = True := eq_true hlt
      clear hrw ha hrow hm3 hk eli hlt hfL
      have z1 : (size == 0) = false := by simpa using (show ¬ size = 0 by omega)
      have z2 : (size = 0) = False := eq_false (by omega)
      go_wp2
      have hb1 : Below wr.heap.size wr (wr.alloc (.cells #[] 2)) := (Below.refl _ _).alloc (Nat.le_refl _) _
      have HS1 := Aside0.mk (HSp.out.new (t := 3) hb1 (rowP_ok (Kd.int .i64) 2 w.heap.size (.slice (some ⟨wr.heap.size, 0, none⟩) 0 0) []) (R_empty (Kd.int .i64) 2 w.heap.size wr _ HB.out.size (Nat.le_refl _)) rfl)
      have HB1 := Aside0.mk (below_then HB.out HB.out.size hb1)
      simp only [List.cons_append, List.nil_append] at HS1
      have HLb := Aside0.mk (of_eq_true p1)
      clear hb1 HSp HB hcL p1 z1 z2 c1 c2
      go_loopg [7, 11, 12] W (fun kq v7 v11 v12 w' => ∃ (own : Nat → Nat) (nu l row : List Int) (c : Nat), v12 = .int .i64 (c : Int) ∧ Aside0 (c + kq = W) ∧ Aside0 (Below w.heap.size w w') ∧ Aside0 (Sep own w' [(4, blkP w.heap.size (.cells #[.int .i64 0, .int .i64 0, .slice none 0 0, .slice none 0 0] 28 (0, 0))), (1, rowP (Kd.int .i64) 2 w.heap.size (.slice (some ⟨gN, 0, none⟩) i c34) nu), (2, rowP (Kd.int .i64) 2 w.heap.size v7 l), (5, blkP ob (.cells #[.int .i64 tapes, .int .i64 0, va, vr] 28 (0, 0))), (6, rowP Kd.bool 4 w.heap.size va bs), (7, rowsP (Kd.slice 2 (Kd.int .i64)) 55 w.heap.size vr rs), (3, rowP (Kd.int .i64) 2 w.heap.size v11 row)]) ∧ Aside0 (rrowF kd tapes size rw_ li kq c nu l row = some (nu1, l1, row1)) ∧ Aside0 (row.length = c ∧ nu.length = i ∧ l.length ≤ 1048576 ∧ bs.length < l.length ∧ l[bs.length]? = some li))
      case atStart => exact ⟨_, nu, l, [], 0, rfl, ⟨by omega⟩, HB1, HS1, HRow, ⟨rfl, HLn.out.2.1, HLn.out.2.2.1, HLb.out, HLi.out⟩⟩
      case round =>
       clear HB1 HS1 HRow HLb
       obtain ⟨own, nu, l, row, c, rfl, HK, HB, HSp, HRow, HLr⟩ := hrel
       have gb := blk_below HG.out HB.out
       have m0 : wr.cell? ⟨g, 0, none⟩ = some (.int .i64 tapes) := (blk_cell gb 0).trans rfl
       cases gk with
       | zero =>
        have hc : c = W := by have := HK.out; omega
        subst hc
        have hr := HRow.out
        rw [rrowF] at hr
        obtain ⟨rfl, rfl, rfl⟩ : nu = nu1 ∧ l = l1 ∧ row = row1 := by simpa using hr
        have c1 : decide ((c : Int) < (c : Int)) = false := decide_eq_false (by omega)
        have c2 : decide (c < c) = false := decide_eq_false (by omega)
        clear hr HRow
        obtain ⟨a0, a1, ea⟩ := at1_some HAc.out
        go_wp2_with (fail)
        with_reducible refine (spec_l01Wide.calls kw tapes (c : Int) _ HW.out).mono ?_
        rintro e w5 ⟨rfl, hd5⟩
        obtain ⟨m5, hw5⟩ := hd5.out
        have hb5 := below_drew (pw_below_drewN (Below.refl wr.heap.size wr) m5)
        rw [← hw5] at hb5
        obtain ⟨ad, e1, hx⟩ := Kd.at_bool (Kd.C_below HA.out (below_then HB.out HB.out.size hb5)) (wrap64 (Int.tdiv li size)) a0 a1
        subst e1
        rw [show rdOf false ac (wrap64 (Int.tdiv li size)) = a_ from ea.symm] at hx
        obtain ⟨A2, cva, hva⟩ := Kd.R_slice (HSp.out.get (i := 4) rfl)
        subst hva
        have HSp3 := Aside0.mk (HSp.out.below hb5)
        have HB3 := Aside0.mk (below_then HB.out HB.out.size hb5)
        have hS : w5.drew.cell? ⟨ob, 2, none⟩ = some (.slice A2 bs.length cva) ∧ w5.drew.cell? ⟨g, 2, none⟩ = some (.slice (some ad) ac.length ca) ∧ w5.drew.cell? (ad.add (wrap64 (Int.tdiv li size)).toNat) = some (.bool a_) ∧ True := ⟨(blk_cell (HSp3.out.get (i := 3) rfl).1 2).trans rfl, (blk_cell (blk_below gb hb5) 2).trans rfl, hx, trivial⟩
        have HEa := Aside0.mk ea.symm
        have a0' := eq_true a0
        have a1' := eq_true a1
        clear hw5 hb5 hd5 m0 HSp HB gb hx ea a0 a1
        go_wp2
        refine start_ (n := 13) (S := fun w' => w'.cell? ⟨ob, 2, none⟩ = some (.slice A2 bs.length cva) ∧ w'.cell? ⟨g, 2, none⟩ = some (.slice (some ad) ac.length ca) ∧ w'.cell? (ad.add (wrap64 (Int.tdiv li size)).toNat) = some (.bool a_) ∧ True) (ds := [12]) #[false, false, false, false, false, false, false, false, false, false, false, false, false] (by kernel_rfl) rfl rfl hS (fun hHeld => ?_)
        generalize w5.drew = w3 at HSp3 HB3 hS hHeld ⊢
        refine pure_ (i := 0) (N := some 138) (v := ?_) (a' := ?_) #[true, false, false, false, false, false, false, false, false, false, false, false, false] rfl rfl (by kernel_rfl) (fun _ _ _ h => h) (Or.inl ⟨by rfl, ?_⟩) ?_ ?_
        rotate_left
        ·intro w'
         go_simp
         with_reducible rfl
        rotate_left
        ·simp only [Act.put, List.setIfInBounds_toArray, List.set_cons_zero, List.set_cons_succ]
         rfl
        refine take_ (i := 1) (N := some 139) (v := ?_) (a' := ?_) #[true, true, false, false, false, false, false, false, false, false, false, false, false] rfl rfl (by kernel_rfl) (fun _ _ _ h => h) (Or.inl ⟨by rfl, ?_⟩) hHeld ?_ ?_
        rotate_left
        ·rintro w' ⟨s0, s1, s2, s3⟩
         go_simp
         with_reducible rfl
        rotate_left
        ·simp only [Act.put, List.setIfInBounds_toArray, List.set_cons_zero, List.set_cons_succ]
         rfl
        refine pure_ (i := 2) (N := some 140) (v := ?_) (a' := ?_) #[true, true, true, false, false, false, false, false, false, false, false, false, false] rfl rfl (by kernel_rfl) (fun _ _ _ h => h) (Or.inl ⟨by rfl, ?_⟩) ?_ ?_
        rotate_left
        ·intro w'
         go_simp
         with_reducible rfl
        rotate_left
        ·simp only [Act.put, List.setIfInBounds_toArray, List.set_cons_zero, List.set_cons_succ]
         rfl
        refine pure_ (i := 3) (N := some 141) (v := ?_) (a' := ?_) #[true, true, true, true, false, false, false, false, false, false, false, false, false] rfl rfl (by kernel_rfl) (fun _ _ _ h => h) (Or.inl ⟨by rfl, ?_⟩) ?_ ?_
        rotate_left
        ·intro w'
         go_simp
         with_reducible rfl
        rotate_left
        ·simp only [Act.put, List.setIfInBounds_toArray, List.set_cons_zero, List.set_cons_succ]
         rfl
        refine pure_ (i := 4) (N := some 142) (v := ?_) (a' := ?_) #[true, true, true, true, true, false, false, false, false, false, false, false, false] rfl rfl (by kernel_rfl) (fun _ _ _ h => h) (Or.inl ⟨by rfl, ?_⟩) ?_ ?_
        rotate_left
        ·intro w'
         go_simp
         with_reducible rfl
        rotate_left
        ·simp only [Act.put, List.setIfInBounds_toArray, List.set_cons_zero, List.set_cons_succ]
         rfl
        refine take_ (i := 5) (N := some 143) (v := ?_) (a' := ?_) #[true, true, true, true, true, true, false, false, false, false, false, false, false] rfl rfl (by kernel_rfl) (fun _ _ _ h => h) (Or.inl ⟨by rfl, ?_⟩) hHeld ?_ ?_
        rotate_left
        ·rintro w' ⟨s0, s1, s2, s3⟩
         go_simp
         with_reducible rfl
        rotate_left
        ·simp only [Act.put, List.setIfInBounds_toArray, List.set_cons_zero, List.set_cons_succ]
         rfl
        refine pure_ (i := 6) (N := some 144) (v := ?_) (a' := ?_) #[true, true, true, true, true, true, true, false, false, false, false, false, false] rfl rfl (by kernel_rfl) (fun _ _ _ h => h) (Or.inl ⟨by rfl, ?_⟩) ?_ ?_
        rotate_left
        ·intro w'
         go_simp
         with_reducible rfl
        rotate_left
        ·simp only [Act.put, List.setIfInBounds_toArray, List.set_cons_zero, List.set_cons_succ]
         rfl
        refine pure_ (i := 7) (N := some 145) (v := ?_) (a' := ?_) #[true, true, true, true, true, true, true, true, false, false, false, false, false] rfl rfl (by kernel_rfl) (fun _ _ _ h => h) (Or.inl ⟨by rfl, ?_⟩) ?_ ?_
        rotate_left
        ·intro w'
         go_simp
         with_reducible rfl
        rotate_left
        ·simp only [Act.put, List.setIfInBounds_toArray, List.set_cons_zero, List.set_cons_succ]
         rfl
        refine take_ (i := 8) (N := some 146) (v := ?_) (a' := ?_) #[true, true, true, true, true, true, true, true, true, false, false, false, false] rfl rfl (by kernel_rfl) (fun _ _ _ h => h) (Or.inl ⟨by rfl, ?_⟩) hHeld ?_ ?_
        rotate_left
        ·rintro w' ⟨s0, s1, s2, s3⟩
         go_simp
         with_reducible rfl
        rotate_left
        ·simp only [Act.put, List.setIfInBounds_toArray, List.set_cons_zero, List.set_cons_succ]
         rfl
        refine one_ (i := 9) (N := some 147) #[true, true, true, true, true, true, true, true, true, true, false, false, false] rfl rfl (by kernel_rfl) (by decide) (fun K hK => ?_)
        refine value_ (v := .slice (some ⟨w3.heap.size, 0, none⟩) 1 1) (w1 := w3.alloc (.cells #[.bool a_] 4)) (by rfl) rfl ?_ ?_
        ·go_simp
        have hba : Below w3.heap.size w3 (w3.alloc (.cells #[.bool a_] 4)) := (Below.refl _ _).alloc (Nat.le_refl _) _
        refine hK.out _ _ ⟨pw_cell_below hba hHeld.1, pw_cell_below hba hHeld.2.1, pw_cell_below hba hHeld.2.2.1, trivial⟩ (fun hHeld2 => ?_)
        clear hK K
        refine norm_ (a' := ?_) ?_ ?_
        rotate_left
        ·show Act.put _ (some 147) _ = _
         simp only [Act.put, List.setIfInBounds_toArray, List.set_cons_zero, List.set_cons_succ]
         rfl
        refine one_ (i := 10) (N := some 148) #[true, true, true, true, true, true, true, true, true, true, true, false, false] rfl rfl (by kernel_rfl) (by decide) (fun K hK => ?_)
        refine Kd.R_append_step Kd.bool (w0 := w) w.heap.size (by rfl) (.tmp 139) (.tmp 147) 22 4 (.bool false) 1 rfl Tryd.underlying22 info4 rfl (by decide) (by decide) (.slice A2 bs.length cva) bs a_ [.bool a_] _ (fun _ => False) rfl rfl rfl (fun _ hk => hk.elim) (fun _ hk => retag_ge hk) (HSp3.out.rowTag 4 rfl) HB3.out HB3.out.size (by have := HLr.out; omega) ?_
        intro v5 w6 ho hb hg hat
        obtain ⟨A5, c5, hv5⟩ := Kd.R_slice ho
        subst hv5
        have HSp4 := Aside0.mk (HSp3.out.appended 4 rfl ho hg rfl)
        have HB4 := Aside0.mk hb
        simp only [List.set_cons_succ, List.set_cons_zero] at HSp4
        obtain ⟨ad6, e6, hx6⟩ := Kd.at_bool (Kd.C_below HA.out HB4.out) (wrap64 (Int.tdiv li size)) (of_eq_true a0') (of_eq_true a1')
        obtain rfl : ad = ad6 := by injection e6
        rw [show rdOf false ac (wrap64 (Int.tdiv li size)) = a_ from HEa.out] at hx6
        have hS6 : w6.cell? ⟨ob, 2, none⟩ = some (.slice A2 bs.length cva) ∧ w6.cell? ⟨g, 2, none⟩ = some (.slice (some ad) ac.length ca) ∧ w6.cell? (ad.add (wrap64 (Int.tdiv li size)).toNat) = some (.bool a_) ∧ True := ⟨(blk_cell (HSp4.out.get (i := 3) rfl).1 2).trans rfl, (blk_cell (blk_below HG.out HB4.out) 2).trans rfl, hx6, trivial⟩
        have g2 := hS6.1
        have f2 := blk_frozen (HSp4.out.get (i := 3) rfl).1 2
        have HSp5 := Aside0.mk (HSp4.out.setBlk 3 rfl 2 (.slice A5 (bs ++ [a_]).length c5) rfl rfl)
        have HB5 := Aside0.mk (HB4.out.setCell (p := ⟨ob, 2, none⟩) (by have := hob.out; show w.heap.size ≤ ob; omega) (.slice A5 (bs ++ [a_]).length c5))
        simp only [List.set_cons_succ, List.set_cons_zero] at HSp5
        clear ho hb hg hat HSp3 HB3 HSp4 HB4
        refine hK.out _ _ hS6 (fun _ => ?_)
        clear hK K hS6
        refine norm_ (a' := ?_) ?_ ?_
        rotate_left
        ·show Act.put _ (some 148) _ = _
         simp only [Act.put, List.setIfInBounds_toArray, List.set_cons_zero, List.set_cons_succ]
         rfl
        refine pure_ (i := 11) (N := some 149) (v := ?_) (a' := ?_) #[true, true, true, true, true, true, true, true, true, true, true, true, false] rfl rfl (by kernel_rfl) (fun _ _ _ h => h) (Or.inl ⟨by rfl, ?_⟩) ?_ ?_
        rotate_left
        ·intro w'
         go_simp
         with_reducible rfl
        rotate_left
        ·simp only [Act.put, List.setIfInBounds_toArray, List.set_cons_zero, List.set_cons_succ]
         rfl
        refine last_ (i := 12) (N := none) #[true, true, true, true, true, true, true, true, true, true, true, true, true] rfl rfl (by kernel_rfl) (by decide) (fun K hK => ?_)
        refine skip_ (w1 := w6.setCell ⟨ob, 2, none⟩ (.slice A5 (bs ++ [a_]).length c5)) (by rfl) rfl ?_ ?_
        ·go_simp
        refine hK.out _ _ ?_
        clear hK K
        refine done_ (by kernel_rfl) ?_
        clear g2 f2 hHeld hHeld2 hba hS a0' a1'
        generalize w6.setCell _ _ = w7 at HSp5 HB5 ⊢
        obtain ⟨A8, c8, hv8⟩ := Kd.S_slice (HSp5.out.get (i := 5) rfl)
        subst hv8
        obtain ⟨A9, c9, hv9⟩ := Kd.R_slice (HSp5.out.get (i := 6) rfl)
        subst hv9
        have m3 : w7.cell? ⟨ob, 3, none⟩ = some (.slice A8 rs.length c8) := (blk_cell (HSp5.out.get (i := 3) rfl).1 3).trans rfl
        have hrl : rs.length < 1048577 := by have h1_ := HLr.out; have h2_ := HLn.out; omega
        have HSp6 := Aside0.mk (HSp5.out.drop 6)
        have hrow := HSp5.out.rowTag2 6 rfl 7
        have HRw3 := Aside0.mk hrow
        simp only [List.eraseIdx_cons_succ, List.eraseIdx_cons_zero] at HSp6
        clear hrow HSp5
        go_wp2_with (first | ((with_reducible refine gate_builtin (b := .append) (xs := #[.tmp 151, .tmp 153]) rfl ?_); at_builtin; refine Kd.S_append (Kd.slice 2 (Kd.int .i64)) (w0 := w) w.heap.size rfl (.tmp 151) (.tmp 153) 23 55 (.slice none 0 0) 24 rfl Tryd.underlying23 info55 rfl (by decide) (by decide) (.slice A8 rs.length c8) rs row [.slice A9 row.length c9] _ _ rfl rfl ?aP ?aK ?aF (HSp6.out.rowsTag (u := 3) 5 rfl (by decide)) ?aB ?aS ?aL ?_; (case aP => exact ⟨_, rfl, HRw3.out⟩); (case aK => intro k hk; exact ⟨Or.inr hk, fun he => by have h_ := (Kd.S_R (HSp6.out.rowsTag (u := 3) 5 rfl (by decide))).1 k he.symm; exact h_.2 hk⟩); (case aF => exact (fun _ hk => Or.inl (retag_ge hk))); (case aB => exact HB5.out); (case aS => exact HB5.out.size); (case aL => omega); intro v8 w8 ho hb hg hat; obtain ⟨A10, c10, hv10⟩ := Kd.S_slice ho; subst hv10; have HSp7 := Aside0.mk (HSp6.out.appendedRows (u := 3) 5 rfl ho hg rfl rfl); simp only [List.set_cons_succ, List.set_cons_zero] at HSp7; have HB7 := Aside0.mk hb; have m8 : w8.cell? ⟨ob, 3, none⟩ = some (.slice A8 rs.length c8) := (blk_cell (HSp7.out.get (i := 3) rfl).1 3).trans rfl; have f8 := blk_frozen (HSp7.out.get (i := 3) rfl).1 3; clear ho hb hg hat HSp6 HRw3 HB5 m3))
        have HSp8 := Aside0.mk (HSp7.out.setBlk 3 rfl 3 (.slice A10 (rs ++ [row]).length c10) rfl rfl)
        have HB8 := Aside0.mk (HB7.out.setCell (p := ⟨ob, 3, none⟩) (by have := hob.out; show w.heap.size ≤ ob; omega) (.slice A10 (rs ++ [row]).length c10))
        simp only [List.set_cons_succ, List.set_cons_zero] at HSp8
        rw [show (rs ++ [row]).length = rs.length + 1 by simp] at HSp8 HB8
        go_roundg k1
        case measure => omega
        case rel => exact ⟨_, nu, l, _, bs ++ [a_], _, rs ++ [row], by rw [show (bs ++ [a_]).length = bs.length + 1 by simp]; go_num, HB8, HSp8, HM3, ⟨by simp; exact HLn.out.1, HLr.out.2.1, HLr.out.2.2.1, by have := HLr.out.2.2.2.1; simp; omega, fun r_ hr_ => by rcases List.mem_append.1 hr_ with h_ | h_; exact HLn.out.2.2.2.2 r_ h_; simp at h_; rw [h_]; exact HLr.out.1⟩⟩
       | succ k2 =>
        --CUT row
        have hc : c < W := by have := HK.out; omega
        have c1 : decide ((c : Int) < (W : Int)) = true := decide_eq_true (by omega)
        have c2 : decide (c < W) = true := decide_eq_true (by omega)
        have hr := HRow.out
        rw [rrowF] at hr
        obtain ⟨en, hen, hr1⟩ := Option.bind_eq_some_iff.mp hr
        have HEn := Aside0.mk hen
        obtain ⟨gL2, cL2, hv, hcL, hfL⟩ := HSp.out.int 2 rfl (bs.length : Int) (by omega) (by have := HLr.out.2.2.2.1; omega)
        subst hv
        have eli : rd l (bs.length : Int) = li := by simp [rd, List.getD_eq_getElem?_getD, HLr.out.2.2.2.2]
        rw [eli] at hcL
        simp only [Int.toNat_natCast] at hcL
        have p1 : (bs.length < l.length) = True := eq_true HLr.out.2.2.2.1
        have HR1 := Aside0.mk hr1
        have z1 : (size == 0) = false := by simpa using (show ¬ size = 0 by omega)
        have z2 : (size = 0) = False := eq_false (by omega)
        clear hr hen hr1 eli hfL HRow gb
        go_wp2_with (fail)
        with_reducible refine (spec_l01Wide.calls kw tapes (W : Int) _ HW.out).mono ?_
        rintro e w5 ⟨rfl, hd5⟩
        obtain ⟨m5, hw5⟩ := hd5.out
        have hb5 := pw_below_drewN (Below.refl wr.heap.size wr) m5
        rw [← hw5] at hb5
        have n0 := pw_cell_below hb5 m0
        have nL := pw_cell_below hb5 hcL
        have HSp5 := Aside0.mk (HSp.out.below hb5)
        have HB5 := Aside0.mk (below_then HB.out HB.out.size hb5)
        clear hw5 hb5 hd5 m0 hcL HSp HB
        go_wp2
        go_quiet ((go_at_call 143; exact Calls.quiet_of ((spec_l01Ended.calls kd tapes (Int.tmod li size) (c : Int) en _ HEn.out).mono (fun _ _ h_ => ⟨h_.1, h_.2.out⟩))))
        have hb6 := pw_below_drewN (Below.refl w5.heap.size w5) nq
        have HSp6 := Aside0.mk (HSp5.out.below hb6)
        have HB6 := Aside0.mk (below_then HB5.out HB5.out.size hb6)
        clear hb6 HSp5 HB5 n0 nL
        generalize w5.drewN nq = w6 at HSp6 HB6 ⊢
        have hc1000 : c < 1000 := by omega
        by_cases he : en < 0
        ·have hr2 := HR1.out
         rw [if_pos he] at hr2
         have HR2 := Aside0.mk hr2
         have d1 : decide (en < 0) = true := decide_eq_true he
         clear hr2 HR1 he
         obtain ⟨A11, c11, hv11⟩ := Kd.R_slice (HSp6.out.get (i := 6) rfl)
         subst hv11
         go_wp2_with (first | ((with_reducible refine gate_builtin (b := .append) (xs := #[.tmp 100, .tmp 101]) rfl ?_); at_builtin; refine Kd.R_append (Kd.int .i64) (w0 := w) w.heap.size rfl (.tmp 100) (.tmp 101) 55 2 (.int .i64 0) 8 rfl Tryd.underlying55 info2 rfl (by decide) (by decide) (Value.slice A11 row.length c11) row ((-1 : Int)) [.int .i64 ((-1 : Int))] _ (fun _ => False) rfl rfl ?aP (fun _ hk => hk.elim) ?aF (HSp6.out.rowTag 6 rfl) ?aB ?aS ?aL ?_; (case aP => exact rfl); (case aF => exact (fun _ hk => retag_ge hk)); (case aB => exact HB6.out); (case aS => exact HB6.out.size); (case aL => have := HLr.out.1; omega); intro v_r w_r ho hb hg hat; have HSp_r := Aside0.mk (HSp6.out.appended 6 rfl ho hg rfl); have HB_r := Aside0.mk hb; simp only [List.set_cons_succ, List.set_cons_zero] at HSp_r; clear ho hb hg hat HSp6 HB6))
         go_roundg k2
         case measure => omega
         case rel => exact ⟨_, nu, l, row ++ [-1], c + 1, by go_num, ⟨by have := HK.out; omega⟩, HB_r, HSp_r, HR2, ⟨by simp [HLr.out.1], HLr.out.2⟩⟩
        ·have hr2 := HR1.out
         rw [if_neg he] at hr2
         obtain ⟨q, hq, hr3⟩ := Option.bind_eq_some_iff.mp hr2
         obtain ⟨x, hx, hr4⟩ := Option.bind_eq_some_iff.mp hr3
         have d1 : decide (en < 0) = false := decide_eq_false he
         obtain ⟨a0, a1, ea⟩ := at1_some HRw.out
         obtain ⟨b0, b1, eb⟩ := at1_some hq
         obtain ⟨x0, x1, ex⟩ := at1_some hx
         obtain ⟨ad, A2, c3, e2, hx2, hl2, hC3⟩ := at_rows (Kd.C_below HN.out HB6.out) (wrap64 (Int.tdiv li size)) a0 a1
         subst e2
         rw [show rdR ns (wrap64 (Int.tdiv li size)) = rw_ from ea.symm] at hx2 hl2 hC3
         obtain ⟨ad2, e3, hx3⟩ := Kd.at_int hC3 (c : Int) b0 b1
         subst e3
         rw [show rd rw_ (c : Int) = q from eb.symm] at hx3
         simp only [Int.toNat_natCast] at hx3
         have m3 : w6.cell? ⟨g, 3, none⟩ = some (.slice (some ad) ns.length cn) := (blk_cell (blk_below HG.out HB6.out) 3).trans rfl
         obtain ⟨gN2, cN2, hv, hcN, hfN⟩ := HSp6.out.int 1 rfl (wrap64 (wrap64 (q * size) + en)) x0 x1
         simp only [Value.slice.injEq, Option.some.injEq, Addr.mk.injEq, and_true, true_and] at hv
         obtain ⟨hv1, hv2, hv3⟩ := hv
         subst hv1
         subst hv3
         have hxr : rd nu (wrap64 (wrap64 (q * size) + en)) = x := ex.symm
         have HXR := Aside0.mk hxr
         rw [hxr] at hcN
         have HR4 := Aside0.mk hr4
         have hb1' : c < rw_.length := by omega
         have b1t := eq_true hb1'
         have x1' : (wrap64 (wrap64 (q * size) + en) < (i : Int)) = True := eq_true (by have := HLr.out.2.1; omega)
         have x0' := eq_true x0
         have a0' := eq_true a0
         have a1' := eq_true a1
         clear hr2 hr3 hr4 hq hx ea eb ex hC3 he hxr a0 a1 b0 b1 x0 x1 HR1 hb1' hl2 hv2
         obtain ⟨A11, c11, hv11⟩ := Kd.R_slice (HSp6.out.get (i := 6) rfl)
         subst hv11
         by_cases hxn : x < 0
         ·have hr5 := HR4.out
          rw [if_pos hxn] at hr5
          by_cases hll : l.length < 1048576
          ·rw [if_pos hll] at hr5
           have HR5 := Aside0.mk hr5
           have d2 : decide (x < 0) = true := decide_eq_true hxn
           have HSp7 := Aside0.mk (HSp6.out.setInt 1 rfl (wrap64 (wrap64 (q * size) + en)) (l.length : Int) rfl)
           have HB7 := Aside0.mk (HB6.out.setCell (p := ⟨gN, (wrap64 (wrap64 (q * size) + en)).toNat, none⟩) (Kd.R_base (HSp6.out.get (i := 1) rfl) gN rfl) (.int .i64 (l.length : Int)))
           simp only [List.set_cons_succ, List.set_cons_zero] at HSp7
           clear hr5 HR4 hxn HSp6 HB6
           go_upto_region 25 with (fail)
           clear m3 hx2 hx3 hcN hfN
           generalize w6.setCell _ _ = w7 at HSp7 HB7 ⊢
           go_wp2_with (first | ((with_reducible refine gate_builtin (b := .append) (xs := #[.tmp 127, .tmp 129]) rfl ?_); at_builtin; refine Kd.R_append (Kd.int .i64) (w0 := w) w.heap.size rfl (.tmp 127) (.tmp 129) 55 2 (.int .i64 0) 8 rfl Tryd.underlying55 info2 rfl (by decide) (by decide) (Value.slice (some ⟨gL2, 0, none⟩) l.length cL2) l (wrap64 (wrap64 (q * size) + en)) [.int .i64 (wrap64 (wrap64 (q * size) + en))] _ (fun _ => False) rfl rfl ?aP (fun _ hk => hk.elim) ?aF (HSp7.out.rowTag 2 rfl) ?aB ?aS ?aL ?_; (case aP => exact rfl); (case aF => exact (fun _ hk => retag_ge hk)); (case aB => exact HB7.out); (case aS => exact HB7.out.size); (case aL => omega); intro v_l w_l ho hb hg hat; have HSp_l := Aside0.mk (HSp7.out.appended 2 rfl ho hg rfl); have HB_l := Aside0.mk hb; simp only [List.set_cons_succ, List.set_cons_zero] at HSp_l; clear ho hb hg hat HSp7 HB7; obtain ⟨gN3, cN3, hv, hcN8, hfN8⟩ := HSp_l.out.int 1 rfl (wrap64 (wrap64 (q * size) + en)) (of_eq_true x0') (by have := of_eq_true x1'; have := HLr.out.2.1; simp only [List.length_set]; omega); simp only [Value.slice.injEq, Option.some.injEq, Addr.mk.injEq, and_true, true_and] at hv; obtain ⟨hv1, hv2, hv3⟩ := hv; subst hv1; subst hv3; rw [rd_set_same (of_eq_true x0') (by have := of_eq_true x1'; have := HLr.out.2.1; omega)] at hcN8; clear hv2) | ((with_reducible refine gate_builtin (b := .append) (xs := #[.tmp 131, .tmp 136]) rfl ?_); at_builtin; refine Kd.R_append (Kd.int .i64) (w0 := w) w.heap.size rfl (.tmp 131) (.tmp 136) 55 2 (.int .i64 0) 8 rfl Tryd.underlying55 info2 rfl (by decide) (by decide) (Value.slice A11 row.length c11) row ((l.length : Int)) [.int .i64 ((l.length : Int))] _ (fun _ => False) rfl rfl ?aP (fun _ hk => hk.elim) ?aF (HSp_l.out.rowTag 6 rfl) ?aB ?aS ?aL ?_; (case aP => exact rfl); (case aF => exact (fun _ hk => retag_ge hk)); (case aB => exact HB_l.out); (case aS => exact HB_l.out.size); (case aL => have := HLr.out.1; omega); intro v_r w_r ho hb hg hat; have HSp_r := Aside0.mk (HSp_l.out.appended 6 rfl ho hg rfl); have HB_r := Aside0.mk hb; simp only [List.set_cons_succ, List.set_cons_zero] at HSp_r; clear ho hb hg hat HSp_l HB_l))
           go_roundg k2
           case measure => omega
           case rel => exact ⟨_, nu.set (wrap64 (wrap64 (q * size) + en)).toNat (l.length : Int), l ++ [wrap64 (wrap64 (q * size) + en)], row ++ [(l.length : Int)], c + 1, by go_num, ⟨by have := HK.out; omega⟩, HB_r, HSp_r, HR5, ⟨by simp [HLr.out.1], by simp [HLr.out.2.1], by simp; omega, by have := HLr.out.2.2.2.1; simp; omega, getE_app HLr.out.2.2.2.2⟩⟩
          ·rw [if_neg hll] at hr5
           cases hr5
         ·have hr5 := HR4.out
          rw [if_neg hxn] at hr5
          have HR5 := Aside0.mk hr5
          have d2 : decide (x < 0) = false := decide_eq_false hxn
          clear hr5 HR4 hxn
          go_wp2_with (first | ((with_reducible refine gate_builtin (b := .append) (xs := #[.tmp 131, .tmp 136]) rfl ?_); at_builtin; refine Kd.R_append (Kd.int .i64) (w0 := w) w.heap.size rfl (.tmp 131) (.tmp 136) 55 2 (.int .i64 0) 8 rfl Tryd.underlying55 info2 rfl (by decide) (by decide) (Value.slice A11 row.length c11) row (x) [.int .i64 (x)] _ (fun _ => False) rfl rfl ?aP (fun _ hk => hk.elim) ?aF (HSp6.out.rowTag 6 rfl) ?aB ?aS ?aL ?_; (case aP => exact rfl); (case aF => exact (fun _ hk => retag_ge hk)); (case aB => exact HB6.out); (case aS => exact HB6.out.size); (case aL => have := HLr.out.1; omega); intro v_r w_r ho hb hg hat; have HSp_r := Aside0.mk (HSp6.out.appended 6 rfl ho hg rfl); have HB_r := Aside0.mk hb; simp only [List.set_cons_succ, List.set_cons_zero] at HSp_r; clear ho hb hg hat HSp6 HB6))
          go_roundg k2
          case measure => omega
          case rel => exact ⟨_, nu, l, row ++ [x], c + 1, by go_num, ⟨by have := HK.out; omega⟩, HB_r, HSp_r, HR5, ⟨by simp [HLr.out.1], HLr.out.2⟩⟩
        --END row
      --END main
  | succ k1 =>
   have hi : i < N := by have := HK.out; omega
   have c1 : decide ((i : Int) < (N : Int)) = true := decide_eq_true (by omega)
   have c2 : decide (i < N) = true := decide_eq_true (by omega)
   have hnl : nu.length = N := by rw [HE.out]; simp; omega
   obtain ⟨gN, cN, hv, hcN, hfN⟩ := HSp.out.int 1 rfl (i : Int) (by omega) (by omega)
   simp only [Value.slice.injEq] at hv
   obtain ⟨hv1, -, hv2⟩ := hv
   subst hv1
   subst hv2
   simp only [Int.toNat_natCast] at hcN hfN
   have hi2 : i < 1048576 := by omega
   clear hnl
   go_wp2
   go_roundg k1
   case measure => omega
   case rel =>
    have hbase := Kd.R_base (HSp.out.get (i := 1) rfl) gN rfl
    exact ⟨own, i + 1, nu.set i (-1), by go_num, ⟨by have := HK.out; omega⟩, ⟨neg_step hi nu HE.out⟩, ⟨HB.out.setCell hbase _⟩, ⟨by have h_ := HSp.out.setInt 1 rfl (i : Int) (-1) rfl; simpa using h_⟩⟩
end Go.Proofs.YtbkcllfgolmloaaDoor.X

-- Written by a program of this claim's author, out of the translation.
namespace Go.Proofs.YtbkcllfgolmloaaDoor.X
open Go.RowKit Go.Proofs.YtbkcllfgolmloaaDoorW.PrintWords Go.Proofs.YtbkcllfgolmloaaDoorW.PrintLast Go.Proofs.YtbkcllfgolmloaaDoorW.PrintMore
attribute [local go_sem] max2_int min2_int max_two min_two max_three min_three max_four min_four   -- for this text's walks alone
set_option linter.unusedVariables false
set_option linter.unusedSimpArgs false
def spec_l01Right.f (k : Nat) (s0_0 : Int) (s0_1 : Int) (s0_2 : List Bool) (s0_3 : List (List Int)) : Option (Int × Int × List Bool × (List (List Int)) × Int × Int) :=
 (spec_l01Wide.f k s0_0).bind fun W => if 0 ≤ W ∧ W ≤ 1000 ∧ 0 ≤ s0_0 ∧ s0_0 ≤ 3 ∧ s0_2.length ≤ 100000 then
  (rightF k s0_0 (2 ^ s0_0.toNat) W.toNat (s0_2.length * 2 ^ s0_0.toNat) k s0_1 s0_2 s0_3).bind fun p => some (s0_0, 0, p.1, p.2, s0_0, s0_1) else none
/-- Nothing that was there is changed. -/
theorem spec_l01Right.same (k : Nat) (g : Nat) (s0_0 : Int) (s0_1 : Int) (s0_2 : List Bool) (s0_3 : List (List Int)) (A2 : Option Addr) (c2 : Nat) (A3 : Option Addr) (c3 : Nat) (r1 : Int) (r2 : Int) (r3 : List Bool) (r4 : List (List Int)) (r5 : Int) (r6 : Int) (w : World) (hb : w.heap[g]? = some (.cells #[.int .i64 s0_0, .int .i64 s0_1, .slice A2 s0_2.length c2, .slice A3 s0_3.length c3] 28 (0, 0))) (hC2 : Kd.C Kd.bool w A2 s0_2.length s0_2) (hC3 : Kd.C (Kd.slice 2 (Kd.int .i64)) w A3 s0_3.length s0_3) (h : spec_l01Right.f k s0_0 s0_1 s0_2 s0_3 = some (r1, r2, r3, r4, r5, r6)) :
  Calls Tryd.prog 115 #[.pointer (some ⟨g, 0, none⟩)] w (RightPost w s0_0 r3 r4) ∧ r1 = s0_0 ∧ r2 = 0 ∧ r5 = s0_0 ∧ r6 = s0_1 := by
 unfold spec_l01Right.f at h
 obtain ⟨W, hW, h⟩ := Option.bind_eq_some_iff.mp h
 have hc : 0 ≤ W ∧ W ≤ 1000 ∧ 0 ≤ s0_0 ∧ s0_0 ≤ 3 ∧ s0_2.length ≤ 100000 := by
  by_cases e : 0 ≤ W ∧ W ≤ 1000 ∧ 0 ≤ s0_0 ∧ s0_0 ≤ 3 ∧ s0_2.length ≤ 100000
  ·exact e
  ·rw [if_neg e] at h; cases h
 rw [if_pos hc] at h
 obtain ⟨w1, w2, t0, t3, hl⟩ := hc
 obtain ⟨⟨bs, rs⟩, hr, h⟩ := Option.bind_eq_some_iff.mp h
 simp only [Option.some.injEq, Prod.mk.injEq] at h
 obtain ⟨rfl, rfl, rfl, rfl, rfl, rfl⟩ := h
 obtain ⟨n, rfl⟩ : ∃ n : Nat, W = (n : Int) := ⟨W.toNat, by omega⟩
 have h8 : ∀ t : Nat, t ≤ 3 → (1 : Int) ≤ 2 ^ t ∧ (2 : Int) ^ t ≤ 8 ∧ IntKind.i64.wrap ((2 : Int) ^ t) = 2 ^ t ∧ ((2 ^ t : Nat) : Int) = (2 : Int) ^ t := by decide +kernel
 obtain ⟨e1, e2, e3, e4⟩ := h8 s0_0.toNat (by omega)
 have e5 : (2 ^ s0_0.toNat : Nat) ≤ 8 := by omega
 have hm : s0_2.length * 2 ^ s0_0.toNat ≤ 100000 * 8 := Nat.mul_le_mul hl e5
 refine ⟨right_calls (W := n) (size := 2 ^ s0_0.toNat) (N := s0_2.length * 2 ^ s0_0.toNat) w g A2 c2 A3 c3 hb hC2 hC3 hW (by omega) e3 t0 t3 e1 e2 ?_ (by omega) (by omega) (by simpa using hr), rfl, rfl, rfl, rfl⟩
 rw [← e4, ← Int.natCast_mul]
 unfold wrap64
 omega
end Go.Proofs.YtbkcllfgolmloaaDoor.X

-- Written by a program of this claim's author, out of the translation.
namespace Go.Proofs.YtbkcllfgolmloaaDoor.X
open Go.RowKit Go.Proofs.YtbkcllfgolmloaaDoorW.PrintWords Go.Proofs.YtbkcllfgolmloaaDoorW.PrintLast Go.Proofs.YtbkcllfgolmloaaDoorW.PrintMore
attribute [local go_sem] max2_int min2_int max_two min_two max_three min_three max_four min_four   -- for this text's walks alone
set_option linter.unusedVariables false
set_option linter.unusedSimpArgs false
def spec_l01Alike.l0 : Nat → List Int → Int → Int → Int → Int → Int → List Bool → List (List Int) → Option (Bool × Int × Int)
 | 0, _, _, _, _, _, _, _, _ => none
 | k + 1, x1, x2, x3, x9, x1000, x1001, x1002, x1003 => if 0 ≤ x2 then (if x2 < (x1003.length : Int) then (if x9 < ((rd_L2 x1003 x2).length : Int) then (if 0 ≤ x9 then (if 0 ≤ (rd (rd_L2 x1003 x2) x9) then (if (rd (rd_L2 x1003 x2) x9) < (x1.length : Int) then (if 0 ≤ x3 then (if x3 < (x1003.length : Int) then (if x9 < ((rd_L2 x1003 x3).length : Int) then (if 0 ≤ (rd (rd_L2 x1003 x3) x9) then (if (rd (rd_L2 x1003 x3) x9) < (x1.length : Int) then (if (rd x1 (rd (rd_L2 x1003 x2) x9)) = (rd x1 (rd (rd_L2 x1003 x3) x9)) then (spec_l01Alike.l0 k x1 x2 x3 (wrap64 (x9 + 1)) x1000 x1001 x1002 x1003) else (some (false, x1000, x1001))) else (none)) else (none)) else (none)) else (none)) else (none)) else (none)) else (none)) else (none)) else (some (true, x1000, x1001))) else (none)) else (none)
def spec_l01Alike.f (k : Nat) (s0_0 : Int) (s0_1 : Int) (s0_2 : List Bool) (s0_3 : List (List Int)) (l1 : List Int) (a2 : Int) (a3 : Int) : Option (Bool × Int × Int) := spec_l01Alike.l0 k l1 a2 a3 0 s0_0 s0_1 s0_2 s0_3
set_option maxHeartbeats 8000000 in
set_option maxRecDepth 100000 in
theorem spec_l01Alike.calls (k : Nat) (g : Nat) (s0_0 : Int) (s0_1 : Int) (s0_2 : List Bool) (s0_3 : List (List Int)) (A1 : Option Addr) (c1 : Nat) (l1 : List Int) (a2 : Int) (a3 : Int) (r1 : Bool) (r2 : Int) (r3 : Int) (w0 w : World) (hI : IsS28 w0 w g s0_0 s0_1 s0_2 s0_3) (hB : Below w0.heap.size w0 w) (hr1 : Kd.C (Kd.int .i64) w A1 l1.length l1) (hc1 : l1.length ≤ c1) (hf1 : ∀ ad, A1 = some ad → 0 < l1.length → ad.block ≠ g) (h : spec_l01Alike.f k s0_0 s0_1 s0_2 s0_3 l1 a2 a3 = some (r1, r2, r3)) :
  Calls Tryd.prog 144 #[.pointer (some ⟨g, 0, none⟩), .slice A1 l1.length c1, .int .i64 a2, .int .i64 a3] w fun e w' => e = .returned (.bool r1) ∧ IsS28 w0 w' g r2 r3 s0_2 s0_3 ∧ Below w0.heap.size w0 w' ∧ KeepBut w w' g none := by
 have HR1 := Aside0.mk hr1
 have HC1 := Aside0.mk hc1
 clear hr1 hc1
 have HI0 := Aside0.mk hI
 have HK := Aside0.mk (KeepBut.refl w g none)
 have HL := Aside0.mk hB.size
 clear hI
 have HW0 := Aside0.mk hB.size
 have HB := Aside0.mk hB
 clear hB
 have H : (spec_l01Alike.l0 k l1 a2 a3 0 s0_0 s0_1 s0_2 s0_3) = some (r1, r2, r3) := h
 clear h
 have H' := Aside0.mk H
 clear H
 go_enter Tryd.func144, Tryd.ntmps144
 go_wp2
 repeat (go_quiet (fail); try go_wp2)
 go_loopg [9] k (fun kq v9 w' => ∃ (x9_1 : Int), v9 = .int .i64 x9_1 ∧ Aside0 (spec_l01Alike.l0 kq l1 a2 a3 x9_1 s0_0 s0_1 s0_2 s0_3 = some (r1, r2, r3)) ∧ Aside0 (kq ≤ k) ∧ Aside0 (IsS28 w0 w' g s0_0 s0_1 s0_2 s0_3) ∧ Aside0 (KeepBut w w' g none) ∧ Aside0 (Below w0.heap.size w0 w'))
 case atStart => exact ⟨(0), (by first | rfl | (simp; done) | (simp [*]; done)), H', ⟨Nat.le_refl _⟩, ⟨by repeat (first | (with_reducible first | exact HI0.out | apply IsS28.alloc | apply IsS28.drewN | apply IsS28.drew | apply IsS28.set_0 | apply IsS28.set_1) | exact HI0.out)⟩, ⟨by repeat (first | (with_reducible first | exact HK.out | apply KeepBut.set_ | apply keep_drewN | apply keep_drew | apply keep_alloc) | exact HK.out)⟩, ⟨by repeat (first | (with_reducible first | exact HB.out | apply below_alloc | apply pw_below_drewN | apply below_drew1 | refine below_set ?_ (IsS28.ge HI0.out)) | exact HB.out)⟩⟩
 case round =>
  clear H'
  try clear c1
  try clear p2
  obtain ⟨x9_1, rfl, HA, HK1, HI0, HK, HB⟩ := hrel
  cases gk with
  | zero => exact absurd HA.out (by simp [spec_l01Alike.l0])
  | succ k1 =>
   have H := HA.out
   clear HA
   simp only [spec_l01Alike.l0] at H
   by_cases c5 : 0 ≤ a2
   ·rw [if_pos c5] at H
    have c5b0 : decide (0 ≤ a2) = true := decide_eq_true c5
    clear c5
    by_cases c6 : a2 < (s0_3.length : Int)
    ·rw [if_pos c6] at H
     have c6b0 : decide (a2 < (s0_3.length : Int)) = true := decide_eq_true c6
     clear c6
     by_cases c7 : x9_1 < ((rd_L2 s0_3 a2).length : Int)
     ·rw [if_pos c7] at H
      have c7b0 : decide (x9_1 < ((rd_L2 s0_3 a2).length : Int)) = true := decide_eq_true c7
      clear c7
      by_cases c8 : 0 ≤ x9_1
      ·rw [if_pos c8] at H
       have c8b0 : decide (0 ≤ x9_1) = true := decide_eq_true c8
       clear c8
       by_cases c9 : 0 ≤ (rd (rd_L2 s0_3 a2) x9_1)
       ·rw [if_pos c9] at H
        have c9b0 : decide (0 ≤ (rd (rd_L2 s0_3 a2) x9_1)) = true := decide_eq_true c9
        clear c9
        by_cases c10 : (rd (rd_L2 s0_3 a2) x9_1) < (l1.length : Int)
        ·rw [if_pos c10] at H
         have c10b0 : decide ((rd (rd_L2 s0_3 a2) x9_1) < (l1.length : Int)) = true := decide_eq_true c10
         clear c10
         by_cases c11 : 0 ≤ a3
         ·rw [if_pos c11] at H
          have c11b0 : decide (0 ≤ a3) = true := decide_eq_true c11
          clear c11
          by_cases c12 : a3 < (s0_3.length : Int)
          ·rw [if_pos c12] at H
           have c12b0 : decide (a3 < (s0_3.length : Int)) = true := decide_eq_true c12
           clear c12
           by_cases c13 : x9_1 < ((rd_L2 s0_3 a3).length : Int)
           ·rw [if_pos c13] at H
            have c13b0 : decide (x9_1 < ((rd_L2 s0_3 a3).length : Int)) = true := decide_eq_true c13
            clear c13
            by_cases c14 : 0 ≤ (rd (rd_L2 s0_3 a3) x9_1)
            ·rw [if_pos c14] at H
             have c14b0 : decide (0 ≤ (rd (rd_L2 s0_3 a3) x9_1)) = true := decide_eq_true c14
             clear c14
             by_cases c15 : (rd (rd_L2 s0_3 a3) x9_1) < (l1.length : Int)
             ·rw [if_pos c15] at H
              have c15b0 : decide ((rd (rd_L2 s0_3 a3) x9_1) < (l1.length : Int)) = true := decide_eq_true c15
              clear c15
              by_cases c16 : (rd l1 (rd (rd_L2 s0_3 a2) x9_1)) = (rd l1 (rd (rd_L2 s0_3 a3) x9_1))
              ·rw [if_pos c16] at H
               have c16b0 : ((rd l1 (rd (rd_L2 s0_3 a2) x9_1)) == (rd l1 (rd (rd_L2 s0_3 a3) x9_1))) = true := beq_iff_eq.mpr c16
               have c16b1 : ((rd l1 (rd (rd_L2 s0_3 a2) x9_1)) != (rd l1 (rd (rd_L2 s0_3 a3) x9_1))) = false := bne_eq_false_iff_eq.mpr c16
               clear c16
               have H' := Aside0.mk H
               clear H
               obtain ⟨ASz17_2, cSz17_2, ASz17_3, cSz17_3, HGz17, hgz17, HSz17_2, HSz17_3⟩ := HI0.out
               have hcz17_0 := cellS28_0 HGz17
               have hcz17_1 := cellS28_1 HGz17
               have hcz17_2 := cellS28_2 HGz17
               have hcz17_3 := cellS28_3 HGz17
               have hfz17_0 := blk_frozen HGz17 0
               have hfz17_1 := blk_frozen HGz17 1
               clear HGz17 hgz17
               have p357 : 0 ≤ (a2 : Int) := of_decide_eq_true (by first | (with_reducible assumption) | assumption)
               have q357 : a2 < (s0_3.length : Int) := of_decide_eq_true (by first | (with_reducible assumption) | assumption)
               obtain ⟨ad357, A357_0, c357_0, e357, hx357_0, hl357_0, hi357_0⟩ := at_L2 HSz17_3 a2 p357 q357
               cases e357
               replace hx357_0 := pw_cell_below HB.out hx357_0
               have HR357_0 := Aside0.mk hi357_0
               have HC357_0 := Aside0.mk hl357_0
               clear hi357_0 hl357_0
               replace p357 := eq_true p357
               replace q357 := eq_true q357
               have p358 : 0 ≤ (a2 : Int) := of_decide_eq_true (by first | (with_reducible assumption) | assumption)
               have q358 : a2 < (s0_3.length : Int) := of_decide_eq_true (by first | (with_reducible assumption) | assumption)
               obtain ⟨ad358, A358_0, c358_0, e358, hx358_0, hl358_0, hi358_0⟩ := at_L2 HSz17_3 a2 p358 q358
               obtain rfl : ad357 = ad358 := (by injection e358)
               replace hx358_0 := pw_cell_below HB.out hx358_0
               try (have hxe_ := hx357_0.symm.trans hx358_0; injection hxe_ with hxe_; injection hxe_ with hA_ hl_ hc_; subst hA_; subst hc_)
               have HR358_0 := Aside0.mk hi358_0
               have HC358_0 := Aside0.mk hl358_0
               clear hi358_0 hl358_0
               replace p358 := eq_true p358
               replace q358 := eq_true q358
               have p359 : 0 ≤ (x9_1 : Int) := of_decide_eq_true (by first | (with_reducible assumption) | assumption)
               have q359 : x9_1 < ((rd_L2 s0_3 a2).length : Int) := of_decide_eq_true (by first | (with_reducible assumption) | assumption)
               obtain ⟨ad359, e359, hx359_0⟩ := Kd.at_int HR358_0.out x9_1 p359 q359
               cases e359
               replace hx359_0 := (by first | exact keep_cell HK.out hx359_0 (by first | (rw [add_block]; exact hf358_0 _ rfl (by omega)) | exact hf358_0 _ rfl (by omega) | exact hf358_0 ad359 rfl (by omega)) | exact pw_cell_below HB.out hx359_0)
               replace p359 := eq_true p359
               replace q359 := eq_true q359
               have p360 : 0 ≤ ((rd (rd_L2 s0_3 a2) x9_1) : Int) := of_decide_eq_true (by first | (with_reducible assumption) | assumption)
               have q360 : (rd (rd_L2 s0_3 a2) x9_1) < (l1.length : Int) := of_decide_eq_true (by first | (with_reducible assumption) | assumption)
               obtain ⟨ad360, e360, hx360_0⟩ := Kd.at_int HR1.out (rd (rd_L2 s0_3 a2) x9_1) p360 q360
               cases e360
               replace hx360_0 := (by first | exact keep_cell HK.out hx360_0 (by first | (rw [add_block]; exact hf1 _ rfl (by omega)) | exact hf1 _ rfl (by omega) | exact hf1 ad360 rfl (by omega)) | exact pw_cell_below HB.out hx360_0)
               replace p360 := eq_true p360
               replace q360 := eq_true q360
               have p361 : 0 ≤ (a3 : Int) := of_decide_eq_true (by first | (with_reducible assumption) | assumption)
               have q361 : a3 < (s0_3.length : Int) := of_decide_eq_true (by first | (with_reducible assumption) | assumption)
               obtain ⟨ad361, A361_0, c361_0, e361, hx361_0, hl361_0, hi361_0⟩ := at_L2 HSz17_3 a3 p361 q361
               obtain rfl : ad357 = ad361 := (by injection e361)
               replace hx361_0 := pw_cell_below HB.out hx361_0
               try (have hxe_ := hx357_0.symm.trans hx361_0; injection hxe_ with hxe_; injection hxe_ with hA_ hl_ hc_; subst hA_; subst hc_)
               have HR361_0 := Aside0.mk hi361_0
               have HC361_0 := Aside0.mk hl361_0
               clear hi361_0 hl361_0
               replace p361 := eq_true p361
               replace q361 := eq_true q361
               have p362 : 0 ≤ (x9_1 : Int) := of_decide_eq_true (by first | (with_reducible assumption) | assumption)
               have q362 : x9_1 < ((rd_L2 s0_3 a3).length : Int) := of_decide_eq_true (by first | (with_reducible assumption) | assumption)
               obtain ⟨ad362, e362, hx362_0⟩ := Kd.at_int HR361_0.out x9_1 p362 q362
               cases e362
               replace hx362_0 := (by first | exact keep_cell HK.out hx362_0 (by first | (rw [add_block]; exact hf361_0 _ rfl (by omega)) | exact hf361_0 _ rfl (by omega) | exact hf361_0 ad362 rfl (by omega)) | exact pw_cell_below HB.out hx362_0)
               replace p362 := eq_true p362
               replace q362 := eq_true q362
               have p363 : 0 ≤ ((rd (rd_L2 s0_3 a3) x9_1) : Int) := of_decide_eq_true (by first | (with_reducible assumption) | assumption)
               have q363 : (rd (rd_L2 s0_3 a3) x9_1) < (l1.length : Int) := of_decide_eq_true (by first | (with_reducible assumption) | assumption)
               obtain ⟨ad363, e363, hx363_0⟩ := Kd.at_int HR1.out (rd (rd_L2 s0_3 a3) x9_1) p363 q363
               obtain rfl : ad360 = ad363 := (by injection e363)
               replace hx363_0 := (by first | exact keep_cell HK.out hx363_0 (by first | (rw [add_block]; exact hf1 _ rfl (by omega)) | exact hf1 _ rfl (by omega) | exact hf1 ad360 rfl (by omega)) | exact pw_cell_below HB.out hx363_0)
               try (have hxe_ := hx360_0.symm.trans hx363_0; injection hxe_ with hxe_; injection hxe_ with hA_ hl_ hc_; subst hA_; subst hc_)
               replace p363 := eq_true p363
               replace q363 := eq_true q363
               go_wp2
               repeat (go_quiet (fail); try go_wp2)
               go_roundg k1
               case measure => have := HK1.out; omega
               case rel => exact ⟨(wrap64 (x9_1 + 1)), (by first | rfl | (simp; done) | (simp [*]; done)), H', ⟨by have := HK1.out; omega⟩, ⟨by repeat (first | (with_reducible first | exact HI0.out | apply IsS28.alloc | apply IsS28.drewN | apply IsS28.drew | apply IsS28.set_0 | apply IsS28.set_1) | exact HI0.out)⟩, ⟨by repeat (first | (with_reducible first | exact HK.out | apply KeepBut.set_ | apply keep_drewN | apply keep_drew | apply keep_alloc) | exact HK.out)⟩, ⟨by repeat (first | (with_reducible first | exact HB.out | apply below_alloc | apply pw_below_drewN | apply below_drew1 | refine below_set ?_ (IsS28.ge HI0.out)) | exact HB.out)⟩⟩
              ·rw [if_neg c16] at H
               have c16b0 : ((rd l1 (rd (rd_L2 s0_3 a2) x9_1)) == (rd l1 (rd (rd_L2 s0_3 a3) x9_1))) = false := beq_eq_false_iff_ne.mpr c16
               have c16b1 : ((rd l1 (rd (rd_L2 s0_3 a2) x9_1)) != (rd l1 (rd (rd_L2 s0_3 a3) x9_1))) = true := bne_iff_ne.mpr c16
               simp only [Option.some.injEq, Prod.mk.injEq] at H
               obtain ⟨rfl, rfl, rfl⟩ := H
               obtain ⟨ASz18_2, cSz18_2, ASz18_3, cSz18_3, HGz18, hgz18, HSz18_2, HSz18_3⟩ := HI0.out
               have hcz18_0 := cellS28_0 HGz18
               have hcz18_1 := cellS28_1 HGz18
               have hcz18_2 := cellS28_2 HGz18
               have hcz18_3 := cellS28_3 HGz18
               have hfz18_0 := blk_frozen HGz18 0
               have hfz18_1 := blk_frozen HGz18 1
               clear HGz18 hgz18
               have p357 : 0 ≤ (a2 : Int) := of_decide_eq_true (by first | (with_reducible assumption) | assumption)
               have q357 : a2 < (s0_3.length : Int) := of_decide_eq_true (by first | (with_reducible assumption) | assumption)
               obtain ⟨ad357, A357_0, c357_0, e357, hx357_0, hl357_0, hi357_0⟩ := at_L2 HSz18_3 a2 p357 q357
               cases e357
               replace hx357_0 := pw_cell_below HB.out hx357_0
               have HR357_0 := Aside0.mk hi357_0
               have HC357_0 := Aside0.mk hl357_0
               clear hi357_0 hl357_0
               replace p357 := eq_true p357
               replace q357 := eq_true q357
               have p358 : 0 ≤ (a2 : Int) := of_decide_eq_true (by first | (with_reducible assumption) | assumption)
               have q358 : a2 < (s0_3.length : Int) := of_decide_eq_true (by first | (with_reducible assumption) | assumption)
               obtain ⟨ad358, A358_0, c358_0, e358, hx358_0, hl358_0, hi358_0⟩ := at_L2 HSz18_3 a2 p358 q358
               obtain rfl : ad357 = ad358 := (by injection e358)
               replace hx358_0 := pw_cell_below HB.out hx358_0
               try (have hxe_ := hx357_0.symm.trans hx358_0; injection hxe_ with hxe_; injection hxe_ with hA_ hl_ hc_; subst hA_; subst hc_)
               have HR358_0 := Aside0.mk hi358_0
               have HC358_0 := Aside0.mk hl358_0
               clear hi358_0 hl358_0
               replace p358 := eq_true p358
               replace q358 := eq_true q358
               have p359 : 0 ≤ (x9_1 : Int) := of_decide_eq_true (by first | (with_reducible assumption) | assumption)
               have q359 : x9_1 < ((rd_L2 s0_3 a2).length : Int) := of_decide_eq_true (by first | (with_reducible assumption) | assumption)
               obtain ⟨ad359, e359, hx359_0⟩ := Kd.at_int HR358_0.out x9_1 p359 q359
               cases e359
               replace hx359_0 := (by first | exact keep_cell HK.out hx359_0 (by first | (rw [add_block]; exact hf358_0 _ rfl (by omega)) | exact hf358_0 _ rfl (by omega) | exact hf358_0 ad359 rfl (by omega)) | exact pw_cell_below HB.out hx359_0)
               replace p359 := eq_true p359
               replace q359 := eq_true q359
               have p360 : 0 ≤ ((rd (rd_L2 s0_3 a2) x9_1) : Int) := of_decide_eq_true (by first | (with_reducible assumption) | assumption)
               have q360 : (rd (rd_L2 s0_3 a2) x9_1) < (l1.length : Int) := of_decide_eq_true (by first | (with_reducible assumption) | assumption)
               obtain ⟨ad360, e360, hx360_0⟩ := Kd.at_int HR1.out (rd (rd_L2 s0_3 a2) x9_1) p360 q360
               cases e360
               replace hx360_0 := (by first | exact keep_cell HK.out hx360_0 (by first | (rw [add_block]; exact hf1 _ rfl (by omega)) | exact hf1 _ rfl (by omega) | exact hf1 ad360 rfl (by omega)) | exact pw_cell_below HB.out hx360_0)
               replace p360 := eq_true p360
               replace q360 := eq_true q360
               have p361 : 0 ≤ (a3 : Int) := of_decide_eq_true (by first | (with_reducible assumption) | assumption)
               have q361 : a3 < (s0_3.length : Int) := of_decide_eq_true (by first | (with_reducible assumption) | assumption)
               obtain ⟨ad361, A361_0, c361_0, e361, hx361_0, hl361_0, hi361_0⟩ := at_L2 HSz18_3 a3 p361 q361
               obtain rfl : ad357 = ad361 := (by injection e361)
               replace hx361_0 := pw_cell_below HB.out hx361_0
               try (have hxe_ := hx357_0.symm.trans hx361_0; injection hxe_ with hxe_; injection hxe_ with hA_ hl_ hc_; subst hA_; subst hc_)
               have HR361_0 := Aside0.mk hi361_0
               have HC361_0 := Aside0.mk hl361_0
               clear hi361_0 hl361_0
               replace p361 := eq_true p361
               replace q361 := eq_true q361
               have p362 : 0 ≤ (x9_1 : Int) := of_decide_eq_true (by first | (with_reducible assumption) | assumption)
               have q362 : x9_1 < ((rd_L2 s0_3 a3).length : Int) := of_decide_eq_true (by first | (with_reducible assumption) | assumption)
               obtain ⟨ad362, e362, hx362_0⟩ := Kd.at_int HR361_0.out x9_1 p362 q362
               cases e362
               replace hx362_0 := (by first | exact keep_cell HK.out hx362_0 (by first | (rw [add_block]; exact hf361_0 _ rfl (by omega)) | exact hf361_0 _ rfl (by omega) | exact hf361_0 ad362 rfl (by omega)) | exact pw_cell_below HB.out hx362_0)
               replace p362 := eq_true p362
               replace q362 := eq_true q362
               have p363 : 0 ≤ ((rd (rd_L2 s0_3 a3) x9_1) : Int) := of_decide_eq_true (by first | (with_reducible assumption) | assumption)
               have q363 : (rd (rd_L2 s0_3 a3) x9_1) < (l1.length : Int) := of_decide_eq_true (by first | (with_reducible assumption) | assumption)
               obtain ⟨ad363, e363, hx363_0⟩ := Kd.at_int HR1.out (rd (rd_L2 s0_3 a3) x9_1) p363 q363
               obtain rfl : ad360 = ad363 := (by injection e363)
               replace hx363_0 := (by first | exact keep_cell HK.out hx363_0 (by first | (rw [add_block]; exact hf1 _ rfl (by omega)) | exact hf1 _ rfl (by omega) | exact hf1 ad360 rfl (by omega)) | exact pw_cell_below HB.out hx363_0)
               try (have hxe_ := hx360_0.symm.trans hx363_0; injection hxe_ with hxe_; injection hxe_ with hA_ hl_ hc_; subst hA_; subst hc_)
               replace p363 := eq_true p363
               replace q363 := eq_true q363
               go_wp2
               repeat (go_quiet (fail); try go_wp2)
               go_ret
               exact ⟨by first | rfl | (simp [errW_none, errW_some] <;> rfl) | (simp [*, errW_none, errW_some] <;> rfl), by repeat (first | (with_reducible first | exact HI0.out | apply IsS28.alloc | apply IsS28.drewN | apply IsS28.drew | apply IsS28.set_0 | apply IsS28.set_1) | exact HI0.out), by repeat (first | (with_reducible first | exact HB.out | apply below_alloc | apply pw_below_drewN | apply below_drew1 | refine below_set ?_ (IsS28.ge HI0.out)) | exact HB.out), by repeat (first | (with_reducible first | exact HK.out | apply KeepBut.set_ | apply keep_drewN | apply keep_drew | apply keep_alloc) | exact HK.out)⟩
             ·rw [if_neg c15] at H
              exact absurd H (by simp)
            ·rw [if_neg c14] at H
             exact absurd H (by simp)
           ·rw [if_neg c13] at H
            exact absurd H (by simp)
          ·rw [if_neg c12] at H
           exact absurd H (by simp)
         ·rw [if_neg c11] at H
          exact absurd H (by simp)
        ·rw [if_neg c10] at H
         exact absurd H (by simp)
       ·rw [if_neg c9] at H
        exact absurd H (by simp)
      ·rw [if_neg c8] at H
       exact absurd H (by simp)
     ·rw [if_neg c7] at H
      have c7b0 : decide (x9_1 < ((rd_L2 s0_3 a2).length : Int)) = false := decide_eq_false c7
      clear c7
      simp only [Option.some.injEq, Prod.mk.injEq] at H
      obtain ⟨rfl, rfl, rfl⟩ := H
      obtain ⟨ASz19_2, cSz19_2, ASz19_3, cSz19_3, HGz19, hgz19, HSz19_2, HSz19_3⟩ := HI0.out
      have hcz19_0 := cellS28_0 HGz19
      have hcz19_1 := cellS28_1 HGz19
      have hcz19_2 := cellS28_2 HGz19
      have hcz19_3 := cellS28_3 HGz19
      have hfz19_0 := blk_frozen HGz19 0
      have hfz19_1 := blk_frozen HGz19 1
      clear HGz19 hgz19
      have p357 : 0 ≤ (a2 : Int) := of_decide_eq_true (by first | (with_reducible assumption) | assumption)
      have q357 : a2 < (s0_3.length : Int) := of_decide_eq_true (by first | (with_reducible assumption) | assumption)
      obtain ⟨ad357, A357_0, c357_0, e357, hx357_0, hl357_0, hi357_0⟩ := at_L2 HSz19_3 a2 p357 q357
      cases e357
      replace hx357_0 := pw_cell_below HB.out hx357_0
      have HR357_0 := Aside0.mk hi357_0
      have HC357_0 := Aside0.mk hl357_0
      clear hi357_0 hl357_0
      replace p357 := eq_true p357
      replace q357 := eq_true q357
      go_wp2
      repeat (go_quiet (fail); try go_wp2)
      go_ret
      exact ⟨by first | rfl | (simp [errW_none, errW_some] <;> rfl) | (simp [*, errW_none, errW_some] <;> rfl), by repeat (first | (with_reducible first | exact HI0.out | apply IsS28.alloc | apply IsS28.drewN | apply IsS28.drew | apply IsS28.set_0 | apply IsS28.set_1) | exact HI0.out), by repeat (first | (with_reducible first | exact HB.out | apply below_alloc | apply pw_below_drewN | apply below_drew1 | refine below_set ?_ (IsS28.ge HI0.out)) | exact HB.out), by repeat (first | (with_reducible first | exact HK.out | apply KeepBut.set_ | apply keep_drewN | apply keep_drew | apply keep_alloc) | exact HK.out)⟩
    ·rw [if_neg c6] at H
     exact absurd H (by simp)
   ·rw [if_neg c5] at H
    exact absurd H (by simp)
end Go.Proofs.YtbkcllfgolmloaaDoor.X

