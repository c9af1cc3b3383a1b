/- Contracts of Go functions of the seat, one by one: each call returns what the Lean function of the same name says, wherever that is 'some'; no other condition. Written by a program of this session. -/
import Derived.Test.YthcdbpbimmjknaaDoorProg
import Derived.Below
import Derived.Deep.Draws
import Derived.Deep.AppendLies
import Derived.Maps.AppendAt
import Derived.OwnWalk
import Derived.Laws.BytesArg
import Derived.Laws.MakeOwn
import Derived.Laws.OwnMore
import Derived.Deep.OwnRows
import Derived.Tactics
import Derived.Lib.ConvBytes
import Derived.Laws.Slices
import Derived.WalkKit
import Derived.KernelRfl
import Derived.RowKit3
import Derived.Deep.LoopGhost
import Derived.Deep.QuietTactic
import Derived.BigQuiet
import Derived.WideLaws
import Derived.Deep.DeepCutAuto
import Derived.Deep.CutBlock
import Derived.Deep.RegionHeld3
import Derived.Laws.Rows
import Derived.Lib.AppendStr
import Derived.ArgAppend
import Derived.Laws.IdiomCopy
import Derived.OrdersHeld
import Derived.Laws.BitsLemmas
import Derived.RowKit
import Derived.Laws.Externs
import Derived.Test.YthcdbpbimmjknaaDoorKAlertOrdersWWords
import Derived.Test.YthcdbpbimmjknaaDoorKAlertOrdersWLast
import Derived.Test.YthcdbpbimmjknaaDoorKAlertOrdersWTab
import Derived.Test.YthcdbpbimmjknaaDoorKAlertOrdersWQPut
import Derived.Test.YthcdbpbimmjknaaDoorKAlertOrdersWApart
import Derived.Test.YthcdbpbimmjknaaDoorKAlertOrdersWArr
import Derived.Test.YthcdbpbimmjknaaDoorKAlertOrdersWZeros
import Derived.Test.YthcdbpbimmjknaaDoorKAlertOrdersWFoot
import Derived.Test.YthcdbpbimmjknaaDoorKAlertOrdersWKept
import Derived.Test.YthcdbpbimmjknaaDoorKAlertOrdersWShare
import Derived.Test.YthcdbpbimmjknaaDoorKAlertOrdersWN
import Derived.Test.YthcdbpbimmjknaaDoorKAlertOrdersWEqStruct
import Derived.Test.YthcdbpbimmjknaaDoorKAlertOrdersWRepsOne
import Derived.Test.YthcdbpbimmjknaaDoorKAlertOrdersWGuard
import Derived.Test.YthcdbpbimmjknaaDoorKAlertOrdersWMore
namespace Go.Proofs.YthcdbpbimmjknaaDoor.Q
open Go.RowKit Go.Proofs.YthcdbpbimmjknaaDoorW.PrintWords Go.Proofs.YthcdbpbimmjknaaDoorW.PrintLast Go.Proofs.YthcdbpbimmjknaaDoorW.PrintMore
attribute [local go_sem] max2_int min2_int max_two min_two max_three min_three max_four min_four   -- for this text's walks alone
set_option linter.unusedVariables false
set_option linter.unusedSimpArgs false



def errW : Option Int → Value
  | none => .nilIface
  | some c => .iface 0 (.int .i64 c)
theorem errW_none : errW none = .nilIface := rfl
theorem errW_some (c : Int) : errW (some c) = .iface 0 (.int .i64 c) := rfl

/-- A variable in memory, behind a call. -/
theorem bkb_ {g : Nat} {o : Obj} {W V w' : World} (h : Aside0 (W.heap[g]? = some o)) (hb : Below V.heap.size V w') (e : V.heap = W.heap) : Aside0 (w'.heap[g]? = some o) := ⟨blk_below (by rw [e]; exact h.out) hb⟩
theorem hbs_ {w W V w2 : World} (h : Aside0 (Below w.heap.size w W)) (hb : Below V.heap.size V w2) (e : V.heap = W.heap) (e1 : V.os = W.os) (e2 : V.tape = W.tape) (e3 : V.output = W.output) : Aside0 (Below w.heap.size w w2) :=
  ⟨below_step (show Below w.heap.size w V from ⟨e1.trans h.out.os, e2.trans h.out.tape, e3.trans h.out.output, by rw [e]; exact h.out.size, fun k hk => by rw [e]; exact h.out.block k hk⟩) hb⟩
theorem nbl_ {g g2 : Nat} {o : Obj} {W V : World} (h : Aside0 (W.heap[g]? = some o)) (hg : g2 = V.heap.size) (e : V.heap = W.heap) : Aside0 (g ≠ g2) := ⟨by rw [hg, e]; exact Nat.ne_of_lt (blk_lt h.out)⟩
theorem nbg_ {g g2 : Nat} {o : Obj} {W V : World} (h : Aside0 (W.heap[g]? = some o)) (hg : g2 = V.heap.size) (e : V.heap = W.heap) : Aside0 (g2 ≠ g) := ⟨by rw [hg, e]; exact Nat.ne_of_gt (blk_lt h.out)⟩
theorem bc_ {g T : Nat} {cs : Array Value} {W : World} (h : Aside0 (W.heap[g]? = some (.cells cs T (0, 0)))) (i : Nat) {v : Value} (e : cs[i]? = some v) : W.cell? ⟨g, i, none⟩ = some v := (blk_cell h.out i).trans e
/-- A row of Bools, by how many of each stand in it one behind the other, beginning with true. -/
def bm_ (l : List Nat) : Array Bool := (l.foldr (fun n (s : Bool × List Bool) => (!s.1, List.replicate n (!s.1) ++ s.2)) (l.length % 2 == 0, [])).2.toArray
section
variable {P : Program} {ops : Array Oper} {Q : Exit → Act → World → Prop} {md : Region.Mode} {R : Nat → World → World → Prop}
/-- Whatever order is picked from here on, and R tells of the worlds ahead of each operation and behind it. -/
def wpAnyR (P : Program) (md : Region.Mode) (ops : Array Oper) (Q : Exit → Act → World → Prop) (R : Nat → World → World → Prop) : Nat → Array Bool → Act → World → Prop
  | 0, listed, a, w => Region.ready md ops listed = [] ∧ Q .normal a w
  | fuel + 1, listed, a, w =>
    (Region.ready md ops listed = [] → Q .normal a w) ∧
    ∀ i ∈ Region.ready md ops listed, wpOp P ops Q i (fun a' w' => R i w w' ∧ wpAnyR P md ops Q R fuel (listed.setIfInBounds i true) a' w') a w
/-- Two facts, each with its own last operations. -/
def R2_ (S1 : World → Prop) (d1 : List Nat) (S2 : World → Prop) (d2 : List Nat) (i : Nat) (w w' : World) : Prop := (i ∉ d1 → S1 w → S1 w') ∧ (i ∉ d2 → S2 w → S2 w')
variable {S1 S2 : World → Prop} {d1 d2 : List Nat}
end
/-! ### Steps of a region's walk, told briefly: what follows by reckoning is reckoned where a step is taken -/
section
variable {P : Program} {ops : Array Oper} {Q : Exit → Act → World → Prop} {md : Region.Mode} {S : World → Prop} {ds : List Nat}
theorem pq_ {T : Bool × List (List Nat × List Nat)} {fuel : Nat} {l : Array Bool} {a a' : Act} {w : World} {oi : Oper} {v : Value} (i t : Nat) (l' : Array Bool) (hT : Aside0 (rtab md ops = T)) (h : wpAnyLast P md ops Q S ds fuel l' a' w)
    (hi : ops[i]? = some oi := by rfl) (hN : oi.dst = some t := by rfl) (hc : anyT T l.toList l'.toList i = true := by kernel_rfl)
    (hQ : ∀ c a w, Q (.panic c) (a.put oi.dst v) w → Q (.panic c) a w := by exact fun _ _ _ h => h)
    (hy : Yields P ops oi v a := by (refine Or.inl ⟨by rfl, ?_⟩; intro w'; go_simp; with_reducible rfl))
    (ha : a.put (some t) v = a' := by (simp only [Act.put, List.setIfInBounds_toArray, List.set_cons_zero, List.set_cons_succ, i64_w, i32_w]; rfl)) : wpAnyLast P md ops Q S ds (fuel + 1) l a w :=
  pure_ l' hi hN (any_of hT.out hc) hQ hy ha h
theorem tq_ {T : Bool × List (List Nat × List Nat)} {B : List Nat} {fuel : Nat} {l : Array Bool} {a a' : Act} {w : World} {oi : Oper} {v : Value} (i t : Nat) (l' : Array Bool) (hT : Aside0 (rtab md ops = T)) (hW : Aside0 (waitsOk T.2 B = true)) (hS : S w) (h : wpAnyLast P md ops Q S ds fuel l' a' w)
    (hi : ops[i]? = some oi := by rfl) (hN : oi.dst = some t := by rfl) (hc : takeW T B ds l.toList l'.toList i = true := by kernel_rfl)
    (hQ : ∀ c a w, Q (.panic c) (a.put oi.dst v) w → Q (.panic c) a w := by exact fun _ _ _ h => h)
    (hy : YieldsIf P ops S oi v a := by (refine Or.inl ⟨by rfl, ?_⟩; intro w' hs_; go_simp; with_reducible rfl))
    (ha : a.put (some t) v = a' := by (simp only [Act.put, List.setIfInBounds_toArray, List.set_cons_zero, List.set_cons_succ, i64_w, i32_w]; rfl)) : wpAnyLast P md ops Q S ds (fuel + 1) l a w :=
  take_ l' hi hN (take_ofW hT.out hW.out hc) hQ hy hS ha h
theorem oq_ {T : Bool × List (List Nat × List Nat)} {fuel : Nat} {l : Array Bool} {a : Act} {w : World} {oi : Oper} (i : Nat) (N : Option Tmp) (l' : Array Bool) (hT : Aside0 (rtab md ops = T))
    (h : ∀ K : Act → World → Prop, Shut (∀ a' w', S w' → (S w' → wpAnyLast P md ops Q S ds fuel l' a' w') → K a' w') → if Region.wanted oi (yielded ops a.tmps) = true then Oper.wp P oi a w K Q else K (a.put N undef) w)
    (hi : ops[i]? = some oi := by rfl) (hN : oi.dst = N := by rfl) (hc : (readyT T.2 l.toList == [i] && l.toList.set i true == l'.toList) = true := by kernel_rfl) (hd : i ∉ ds := by decide) : wpAnyLast P md ops Q S ds (fuel + 1) l a w :=
  one_ l' hi hN (one_of hT.out hc) hd h
theorem nq_ {fuel : Nat} {l : Array Bool} {a a' : Act} {w : World} {v : Value} (t : Nat) (h : wpAnyLast P md ops Q S ds fuel l a' w)
    (ha : a.put (some t) v = a' := by (simp only [Act.put, List.setIfInBounds_toArray, List.set_cons_zero, List.set_cons_succ, i64_w, i32_w]; rfl)) : wpAnyLast P md ops Q S ds fuel l (a.put (some t) v) w :=
  norm_ ha h
/-- A call, its arguments reckoned. -/
theorem gq_ {oi : Oper} {N : Option Tmp} {a : Act} {w : World} {K : Act → World → Prop} {f : FuncId} {fn : Func} {xs : Array Operand} {ts : Array TypeId} (hf : P.funcs[f]? = some fn) (args : Array Value)
    (h : Calls P f args w fun e w' => ∃ v, e = .returned v ∧ K (a.put N v) w')
    (hname : (fn.name == "runtime.NumGoroutine") = false := by kernel_rfl) (hb : fn.body.isSome = true := by rfl) (hw : Region.wanted oi (yielded ops a.tmps) = true := by rfl) (hN : oi.dst = N := by rfl)
    (hop : oi.op = .call { callee := .value (.func f), args := xs, argTypes := ts } := by rfl)
    (hargs : xs.map a.eval = args := by ((try simp only [List.map_toArray, List.map_cons, List.map_nil]); first | done | rfl | (simp only [List.length_drop, List.length_take]; rfl))) :
    if Region.wanted oi (yielded ops a.tmps) = true then Oper.wp P oi a w K Q else K (a.put N undef) w :=
  goes_ hf hname hb args hw hN hop hargs h
end
section
variable {P : Program} {ops : Array Oper} {Q : Exit → Act → World → Prop} {rest : List Oper} {o : Oper} {a : Act} {Kc : Act → World → Prop}
theorem bxq_ {W : World} (N : Tmp) (cs : Array Value) (t : TypeId) (h : ∀ g, g = W.heap.size → ∀ w1, w1.heap[g]? = some (.cells cs t (0, 0)) → Below W.heap.size W w1 → wpList P ops Q rest (a.put o.dst (.pointer (some ⟨g, 0, none⟩))) w1)
    (hgd : o.guard = none := by rfl) (hd : o.dst = some N := by rfl) (hrun : (execOp a.eval o).run P W = .ok (.value (.pointer (some ⟨W.heap.size, 0, none⟩))) (W.alloc (.cells cs t (0, 0))) := by (first | (go_simp; done) | (go_simp; rfl))) : wpList P ops Q (o :: rest) a W :=
  box_event hgd hd hrun h
theorem glq_ {w : World} (N : Option Tmp) {f : FuncId} {fn : Func} {xs : Array Operand} {ts : Array TypeId} (hf : P.funcs[f]? = some fn) (args : Array Value)
    (h : Calls P f args w fun e w' => ∃ v, e = .returned v ∧ wpList P ops Q rest (a.put N v) w')
    (hd : o.dst = N := by rfl) (hg : o.guard = none := by rfl) (hname : (fn.name == "runtime.NumGoroutine") = false := by kernel_rfl) (hb : fn.body.isSome = true := by rfl)
    (hop : o.op = .call { callee := .value (.func f), args := xs, argTypes := ts } := by rfl)
    (hargs : xs.map a.eval = args := by ((try simp only [List.map_toArray, List.map_cons, List.map_nil]); first | done | rfl | (simp only [List.length_drop, List.length_take]; rfl))) : wpList P ops Q (o :: rest) a w :=
  goesL_ N hd hg hf hname hb args hop hargs h
theorem gwq_ {w W V : World} {g : Nat} (h : Aside0 (Below w.heap.size w W)) (hg : g = V.heap.size) (e : V.heap = W.heap) : Aside0 (w.heap.size ≤ g) := ⟨by rw [hg, e]; exact below_size h.out⟩
end
theorem fld28_2 (x0 x1 x2 : Value) (w : World) : (Instr.field 28 (.agg #[x0, x1, x2]) 2).run Tryd.prog w = .ok x2 w := by
  simp [Instr.field, part, isAgg, asAgg, Tryd.underlying28, Tryd.underlying4, go_sem]
theorem fld31_2 (x0 x1 x2 : Value) (w : World) : (Instr.field 31 (.agg #[x0, x1, x2]) 2).run Tryd.prog w = .ok x2 w := by
  simp [Instr.field, part, isAgg, asAgg, Tryd.underlying31, Tryd.underlying4, go_sem]
theorem fld34_2 (x0 x1 x2 : Value) (w : World) : (Instr.field 34 (.agg #[x0, x1, x2]) 2).run Tryd.prog w = .ok x2 w := by
  simp [Instr.field, part, isAgg, asAgg, Tryd.underlying34, Tryd.underlying4, go_sem]
theorem info9 : (Tryd.prog.info? 9).map (fun i => (i.zero, i.size, i.bytes)) = some (some (.string ⟨#[]⟩), 1, 16) := by kernel_rfl
-- the values' own types
/-! #### struct type 28 -/
structure S28 where
  f0 : Int
  f1 : Int
  f2 : Bool
def z28 : S28 := ⟨(0 : Int), (0 : Int), false⟩
def k28 : Kd S28 := Kd.iso (Kd.pair (Kd.int .i64) (Kd.pair (Kd.int .i64) Kd.bool)) (fun x : S28 => (x.f0, x.f1, x.f2))
theorem k28_open {w : World} {x : S28} {cs : List Value} (h : k28.K w x cs) : cs = [.int .i64 x.f0, .int .i64 x.f1, .bool x.f2] := by
  obtain ⟨_, _, rfl, rfl, ⟨_, _, rfl, rfl, rfl⟩⟩ := h
  exact rfl
theorem k28_mkM (w : World) (base : Nat) (ok : Nat → Prop) (x : S28)  : k28.M w base ok x [.int .i64 x.f0, .int .i64 x.f1, .bool x.f2] := ⟨[.int .i64 x.f0], [.int .i64 x.f1, .bool x.f2], rfl, rfl, ⟨[.int .i64 x.f1], [.bool x.f2], rfl, rfl, rfl⟩⟩
def rd_T28 (xs : List S28) (i : Int) : S28 := xs.getD i.toNat z28
/-! #### struct type 31 -/
structure S31 where
  f0 : Int
  f1 : Int
  f2 : Bool
def z31 : S31 := ⟨(0 : Int), (0 : Int), false⟩
def k31 : Kd S31 := Kd.iso (Kd.pair (Kd.int .i64) (Kd.pair (Kd.int .i64) Kd.bool)) (fun x : S31 => (x.f0, x.f1, x.f2))
theorem k31_open {w : World} {x : S31} {cs : List Value} (h : k31.K w x cs) : cs = [.int .i64 x.f0, .int .i64 x.f1, .bool x.f2] := by
  obtain ⟨_, _, rfl, rfl, ⟨_, _, rfl, rfl, rfl⟩⟩ := h
  exact rfl
theorem k31_mkM (w : World) (base : Nat) (ok : Nat → Prop) (x : S31)  : k31.M w base ok x [.int .i64 x.f0, .int .i64 x.f1, .bool x.f2] := ⟨[.int .i64 x.f0], [.int .i64 x.f1, .bool x.f2], rfl, rfl, ⟨[.int .i64 x.f1], [.bool x.f2], rfl, rfl, rfl⟩⟩
def rd_T31 (xs : List S31) (i : Int) : S31 := xs.getD i.toNat z31
/-! #### struct type 34 -/
structure S34 where
  f0 : Int
  f1 : Int
  f2 : Bool
def z34 : S34 := ⟨(0 : Int), (0 : Int), false⟩
def k34 : Kd S34 := Kd.iso (Kd.pair (Kd.int .i64) (Kd.pair (Kd.int .i64) Kd.bool)) (fun x : S34 => (x.f0, x.f1, x.f2))
theorem k34_open {w : World} {x : S34} {cs : List Value} (h : k34.K w x cs) : cs = [.int .i64 x.f0, .int .i64 x.f1, .bool x.f2] := by
  obtain ⟨_, _, rfl, rfl, ⟨_, _, rfl, rfl, rfl⟩⟩ := h
  exact rfl
theorem k34_mkM (w : World) (base : Nat) (ok : Nat → Prop) (x : S34)  : k34.M w base ok x [.int .i64 x.f0, .int .i64 x.f1, .bool x.f2] := ⟨[.int .i64 x.f0], [.int .i64 x.f1, .bool x.f2], rfl, rfl, ⟨[.int .i64 x.f1], [.bool x.f2], rfl, rfl, rfl⟩⟩
def rd_T34 (xs : List S34) (i : Int) : S34 := xs.getD i.toNat z34
/-! #### struct type 36 -/
structure S36 where
  f0 : Int
  f1 : Int
  f2 : Int
  f3 : S28
  f4 : S31
  f5 : S31
  f6 : S34
  f7 : Int
def z36 : S36 := ⟨(0 : Int), (0 : Int), (0 : Int), z28, z31, z31, z34, (0 : Int)⟩
def k36 : Kd S36 := Kd.iso (Kd.pair (Kd.int .i64) (Kd.pair (Kd.int .i64) (Kd.pair (Kd.int .i64) (Kd.pair k28 (Kd.pair k31 (Kd.pair k31 (Kd.pair k34 (Kd.int .i64)))))))) (fun x : S36 => (x.f0, x.f1, x.f2, x.f3, x.f4, x.f5, x.f6, x.f7))
theorem k36_open {w : World} {x : S36} {cs : List Value} (h : k36.K w x cs) : cs = [.int .i64 x.f0, .int .i64 x.f1, .int .i64 x.f2, .int .i64 x.f3.f0, .int .i64 x.f3.f1, .bool x.f3.f2, .int .i64 x.f4.f0, .int .i64 x.f4.f1, .bool x.f4.f2, .int .i64 x.f5.f0, .int .i64 x.f5.f1, .bool x.f5.f2, .int .i64 x.f6.f0, .int .i64 x.f6.f1, .bool x.f6.f2, .int .i64 x.f7] := by
  obtain ⟨_, _, rfl, rfl, ⟨_, _, rfl, rfl, ⟨_, _, rfl, rfl, ⟨_, _, rfl, s3, ⟨_, _, rfl, s6, ⟨_, _, rfl, s9, ⟨_, _, rfl, s12, rfl⟩⟩⟩⟩⟩⟩⟩ := h
  obtain rfl := k28_open s3
  obtain rfl := k31_open s6
  obtain rfl := k31_open s9
  obtain rfl := k34_open s12
  exact rfl
theorem k36_mkM (w : World) (base : Nat) (ok : Nat → Prop) (x : S36)  : k36.M w base ok x [.int .i64 x.f0, .int .i64 x.f1, .int .i64 x.f2, .int .i64 x.f3.f0, .int .i64 x.f3.f1, .bool x.f3.f2, .int .i64 x.f4.f0, .int .i64 x.f4.f1, .bool x.f4.f2, .int .i64 x.f5.f0, .int .i64 x.f5.f1, .bool x.f5.f2, .int .i64 x.f6.f0, .int .i64 x.f6.f1, .bool x.f6.f2, .int .i64 x.f7] := ⟨[.int .i64 x.f0], [.int .i64 x.f1, .int .i64 x.f2, .int .i64 x.f3.f0, .int .i64 x.f3.f1, .bool x.f3.f2, .int .i64 x.f4.f0, .int .i64 x.f4.f1, .bool x.f4.f2, .int .i64 x.f5.f0, .int .i64 x.f5.f1, .bool x.f5.f2, .int .i64 x.f6.f0, .int .i64 x.f6.f1, .bool x.f6.f2, .int .i64 x.f7], rfl, rfl, ⟨[.int .i64 x.f1], [.int .i64 x.f2, .int .i64 x.f3.f0, .int .i64 x.f3.f1, .bool x.f3.f2, .int .i64 x.f4.f0, .int .i64 x.f4.f1, .bool x.f4.f2, .int .i64 x.f5.f0, .int .i64 x.f5.f1, .bool x.f5.f2, .int .i64 x.f6.f0, .int .i64 x.f6.f1, .bool x.f6.f2, .int .i64 x.f7], rfl, rfl, ⟨[.int .i64 x.f2], [.int .i64 x.f3.f0, .int .i64 x.f3.f1, .bool x.f3.f2, .int .i64 x.f4.f0, .int .i64 x.f4.f1, .bool x.f4.f2, .int .i64 x.f5.f0, .int .i64 x.f5.f1, .bool x.f5.f2, .int .i64 x.f6.f0, .int .i64 x.f6.f1, .bool x.f6.f2, .int .i64 x.f7], rfl, rfl, ⟨[.int .i64 x.f3.f0, .int .i64 x.f3.f1, .bool x.f3.f2], [.int .i64 x.f4.f0, .int .i64 x.f4.f1, .bool x.f4.f2, .int .i64 x.f5.f0, .int .i64 x.f5.f1, .bool x.f5.f2, .int .i64 x.f6.f0, .int .i64 x.f6.f1, .bool x.f6.f2, .int .i64 x.f7], rfl, (k28_mkM w base ok x.f3 ), ⟨[.int .i64 x.f4.f0, .int .i64 x.f4.f1, .bool x.f4.f2], [.int .i64 x.f5.f0, .int .i64 x.f5.f1, .bool x.f5.f2, .int .i64 x.f6.f0, .int .i64 x.f6.f1, .bool x.f6.f2, .int .i64 x.f7], rfl, (k31_mkM w base ok x.f4 ), ⟨[.int .i64 x.f5.f0, .int .i64 x.f5.f1, .bool x.f5.f2], [.int .i64 x.f6.f0, .int .i64 x.f6.f1, .bool x.f6.f2, .int .i64 x.f7], rfl, (k31_mkM w base ok x.f5 ), ⟨[.int .i64 x.f6.f0, .int .i64 x.f6.f1, .bool x.f6.f2], [.int .i64 x.f7], rfl, (k34_mkM w base ok x.f6 ), rfl⟩⟩⟩⟩⟩⟩⟩
def rd_T36 (xs : List S36) (i : Int) : S36 := xs.getD i.toNat z36
/-! #### struct type 40 -/
structure S40 where
  f0 : S36
  f1 : S36
  f2 : S36
def z40 : S40 := ⟨z36, z36, z36⟩
def k40 : Kd S40 := Kd.iso (Kd.pair k36 (Kd.pair k36 k36)) (fun x : S40 => (x.f0, x.f1, x.f2))
theorem k40_open {w : World} {x : S40} {cs : List Value} (h : k40.K w x cs) : cs = [.int .i64 x.f0.f0, .int .i64 x.f0.f1, .int .i64 x.f0.f2, .int .i64 x.f0.f3.f0, .int .i64 x.f0.f3.f1, .bool x.f0.f3.f2, .int .i64 x.f0.f4.f0, .int .i64 x.f0.f4.f1, .bool x.f0.f4.f2, .int .i64 x.f0.f5.f0, .int .i64 x.f0.f5.f1, .bool x.f0.f5.f2, .int .i64 x.f0.f6.f0, .int .i64 x.f0.f6.f1, .bool x.f0.f6.f2, .int .i64 x.f0.f7, .int .i64 x.f1.f0, .int .i64 x.f1.f1, .int .i64 x.f1.f2, .int .i64 x.f1.f3.f0, .int .i64 x.f1.f3.f1, .bool x.f1.f3.f2, .int .i64 x.f1.f4.f0, .int .i64 x.f1.f4.f1, .bool x.f1.f4.f2, .int .i64 x.f1.f5.f0, .int .i64 x.f1.f5.f1, .bool x.f1.f5.f2, .int .i64 x.f1.f6.f0, .int .i64 x.f1.f6.f1, .bool x.f1.f6.f2, .int .i64 x.f1.f7, .int .i64 x.f2.f0, .int .i64 x.f2.f1, .int .i64 x.f2.f2, .int .i64 x.f2.f3.f0, .int .i64 x.f2.f3.f1, .bool x.f2.f3.f2, .int .i64 x.f2.f4.f0, .int .i64 x.f2.f4.f1, .bool x.f2.f4.f2, .int .i64 x.f2.f5.f0, .int .i64 x.f2.f5.f1, .bool x.f2.f5.f2, .int .i64 x.f2.f6.f0, .int .i64 x.f2.f6.f1, .bool x.f2.f6.f2, .int .i64 x.f2.f7] := by
  obtain ⟨_, _, rfl, s0, ⟨_, _, rfl, s16, s32⟩⟩ := h
  obtain rfl := k36_open s0
  obtain rfl := k36_open s16
  obtain rfl := k36_open s32
  exact rfl
theorem k40_mkM (w : World) (base : Nat) (ok : Nat → Prop) (x : S40)  : k40.M w base ok x [.int .i64 x.f0.f0, .int .i64 x.f0.f1, .int .i64 x.f0.f2, .int .i64 x.f0.f3.f0, .int .i64 x.f0.f3.f1, .bool x.f0.f3.f2, .int .i64 x.f0.f4.f0, .int .i64 x.f0.f4.f1, .bool x.f0.f4.f2, .int .i64 x.f0.f5.f0, .int .i64 x.f0.f5.f1, .bool x.f0.f5.f2, .int .i64 x.f0.f6.f0, .int .i64 x.f0.f6.f1, .bool x.f0.f6.f2, .int .i64 x.f0.f7, .int .i64 x.f1.f0, .int .i64 x.f1.f1, .int .i64 x.f1.f2, .int .i64 x.f1.f3.f0, .int .i64 x.f1.f3.f1, .bool x.f1.f3.f2, .int .i64 x.f1.f4.f0, .int .i64 x.f1.f4.f1, .bool x.f1.f4.f2, .int .i64 x.f1.f5.f0, .int .i64 x.f1.f5.f1, .bool x.f1.f5.f2, .int .i64 x.f1.f6.f0, .int .i64 x.f1.f6.f1, .bool x.f1.f6.f2, .int .i64 x.f1.f7, .int .i64 x.f2.f0, .int .i64 x.f2.f1, .int .i64 x.f2.f2, .int .i64 x.f2.f3.f0, .int .i64 x.f2.f3.f1, .bool x.f2.f3.f2, .int .i64 x.f2.f4.f0, .int .i64 x.f2.f4.f1, .bool x.f2.f4.f2, .int .i64 x.f2.f5.f0, .int .i64 x.f2.f5.f1, .bool x.f2.f5.f2, .int .i64 x.f2.f6.f0, .int .i64 x.f2.f6.f1, .bool x.f2.f6.f2, .int .i64 x.f2.f7] := ⟨[.int .i64 x.f0.f0, .int .i64 x.f0.f1, .int .i64 x.f0.f2, .int .i64 x.f0.f3.f0, .int .i64 x.f0.f3.f1, .bool x.f0.f3.f2, .int .i64 x.f0.f4.f0, .int .i64 x.f0.f4.f1, .bool x.f0.f4.f2, .int .i64 x.f0.f5.f0, .int .i64 x.f0.f5.f1, .bool x.f0.f5.f2, .int .i64 x.f0.f6.f0, .int .i64 x.f0.f6.f1, .bool x.f0.f6.f2, .int .i64 x.f0.f7], [.int .i64 x.f1.f0, .int .i64 x.f1.f1, .int .i64 x.f1.f2, .int .i64 x.f1.f3.f0, .int .i64 x.f1.f3.f1, .bool x.f1.f3.f2, .int .i64 x.f1.f4.f0, .int .i64 x.f1.f4.f1, .bool x.f1.f4.f2, .int .i64 x.f1.f5.f0, .int .i64 x.f1.f5.f1, .bool x.f1.f5.f2, .int .i64 x.f1.f6.f0, .int .i64 x.f1.f6.f1, .bool x.f1.f6.f2, .int .i64 x.f1.f7, .int .i64 x.f2.f0, .int .i64 x.f2.f1, .int .i64 x.f2.f2, .int .i64 x.f2.f3.f0, .int .i64 x.f2.f3.f1, .bool x.f2.f3.f2, .int .i64 x.f2.f4.f0, .int .i64 x.f2.f4.f1, .bool x.f2.f4.f2, .int .i64 x.f2.f5.f0, .int .i64 x.f2.f5.f1, .bool x.f2.f5.f2, .int .i64 x.f2.f6.f0, .int .i64 x.f2.f6.f1, .bool x.f2.f6.f2, .int .i64 x.f2.f7], rfl, (k36_mkM w base ok x.f0 ), ⟨[.int .i64 x.f1.f0, .int .i64 x.f1.f1, .int .i64 x.f1.f2, .int .i64 x.f1.f3.f0, .int .i64 x.f1.f3.f1, .bool x.f1.f3.f2, .int .i64 x.f1.f4.f0, .int .i64 x.f1.f4.f1, .bool x.f1.f4.f2, .int .i64 x.f1.f5.f0, .int .i64 x.f1.f5.f1, .bool x.f1.f5.f2, .int .i64 x.f1.f6.f0, .int .i64 x.f1.f6.f1, .bool x.f1.f6.f2, .int .i64 x.f1.f7], [.int .i64 x.f2.f0, .int .i64 x.f2.f1, .int .i64 x.f2.f2, .int .i64 x.f2.f3.f0, .int .i64 x.f2.f3.f1, .bool x.f2.f3.f2, .int .i64 x.f2.f4.f0, .int .i64 x.f2.f4.f1, .bool x.f2.f4.f2, .int .i64 x.f2.f5.f0, .int .i64 x.f2.f5.f1, .bool x.f2.f5.f2, .int .i64 x.f2.f6.f0, .int .i64 x.f2.f6.f1, .bool x.f2.f6.f2, .int .i64 x.f2.f7], rfl, (k36_mkM w base ok x.f1 ), (k36_mkM w base ok x.f2 )⟩⟩
def rd_T40 (xs : List S40) (i : Int) : S40 := xs.getD i.toNat z40
end Go.Proofs.YthcdbpbimmjknaaDoor.Q
