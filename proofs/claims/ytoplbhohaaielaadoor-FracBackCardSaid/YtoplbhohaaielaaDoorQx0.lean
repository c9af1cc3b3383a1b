/- Contracts of Go functions of the seat, one by one: each call returns what the Lean function of the same name says, wherever that is 'some'; no other condition. Written by a program of this session. -/
import Derived.Test.YtoplbhohaaielaaDoorProg
import Derived.Below
import Derived.Deep.Draws
import Derived.Deep.AppendLies
import Derived.Maps.AppendAt
import Derived.OwnWalk
import Derived.Laws.BytesArg
import Derived.Laws.MakeOwn
import Derived.Laws.OwnMore
import Derived.Deep.OwnRows
import Derived.Tactics
import Derived.Lib.ConvBytes
import Derived.Laws.Slices
import Derived.WalkKit
import Derived.KernelRfl
import Derived.RowKit3
import Derived.Deep.LoopGhost
import Derived.Deep.QuietTactic
import Derived.BigQuiet
import Derived.WideLaws
import Derived.Deep.DeepCutAuto
import Derived.Deep.CutBlock
import Derived.Deep.RegionHeld3
import Derived.Laws.Rows
import Derived.Lib.AppendStr
import Derived.ArgAppend
import Derived.Laws.IdiomCopy
import Derived.OrdersHeld
import Derived.Laws.BitsLemmas
import Derived.RowKit
import Derived.Laws.Externs
import Derived.Test.YtoplbhohaaielaaDoorWWords
import Derived.Test.YtoplbhohaaielaaDoorWLast
import Derived.Test.YtoplbhohaaielaaDoorWTab
import Derived.Test.YtoplbhohaaielaaDoorWFour
import Derived.Test.YtoplbhohaaielaaDoorWQPut
import Derived.Test.YtoplbhohaaielaaDoorWApart
import Derived.Test.YtoplbhohaaielaaDoorWArr
import Derived.Test.YtoplbhohaaielaaDoorWZeros
import Derived.Test.YtoplbhohaaielaaDoorWFoot
import Derived.Test.YtoplbhohaaielaaDoorWKept
import Derived.Test.YtoplbhohaaielaaDoorWShare
import Derived.Test.YtoplbhohaaielaaDoorWN
import Derived.Test.YtoplbhohaaielaaDoorWFootNe
import Derived.Test.YtoplbhohaaielaaDoorWAt
import Derived.Test.YtoplbhohaaielaaDoorWEqStruct
import Derived.Test.YtoplbhohaaielaaDoorWRepsOne
import Derived.Test.YtoplbhohaaielaaDoorWInv
import Derived.Test.YtoplbhohaaielaaDoorWInvWords
import Derived.Test.YtoplbhohaaielaaDoorWGuard
import Derived.Test.YtoplbhohaaielaaDoorWNEv
import Derived.Test.YtoplbhohaaielaaDoorWMore
namespace Go.Proofs.YtoplbhohaaielaaDoor.Q
open Go.RowKit Go.Proofs.YtoplbhohaaielaaDoorW.PrintWords Go.Proofs.YtoplbhohaaielaaDoorW.PrintLast Go.Proofs.YtoplbhohaaielaaDoorW.PrintMore
attribute [local go_sem] max2_int min2_int max_two min_two max_three min_three max_four min_four   -- for this text's walks alone
set_option linter.unusedVariables false
set_option linter.unusedSimpArgs false



def errW : Option Int → Value
  | none => .nilIface
  | some c => .iface 104 (.int .i64 c)
theorem errW_none : errW none = .nilIface := rfl
theorem errW_some (c : Int) : errW (some c) = .iface 104 (.int .i64 c) := rfl

/-- A call through a function value that lies in a slot, in a region that draws. -/
theorem goesv_ {K : Act → World → Prop} {N : Option Tmp} {P : Program} {ops : Array Oper} {oi : Oper} {a : Act} {w : World} {Q : Exit → Act → World → Prop} {f : FuncId} {fn : Func} {x : Operand} {xs : Array Operand} {ts : Array TypeId} (hf : P.funcs[f]? = some fn) (hname : (fn.name == "runtime.NumGoroutine") = false) (hb : fn.body.isSome = true) (args : Array Value)
    (hw : Region.wanted oi (yielded ops a.tmps) = true) (hN : oi.dst = N) (hop : oi.op = .call { callee := .value x, args := xs, argTypes := ts }) (hx : a.eval x = .func (.func f) #[] #[]) (hargs : xs.map a.eval = args)
    (h : Calls P f args w fun e w' => ∃ v, e = .returned v ∧ K (a.put N v) w') : if Region.wanted oi (yielded ops a.tmps) = true then Oper.wp P oi a w K Q else K (a.put N undef) w := by
  refine call_ f args hw hN ?_ h
  have he := enters_ hf hname hb args w
  unfold execOp
  simp [hop, resolve, Deferred.ofValue, invoke, hx, hargs, he]
theorem gatev_ {P : Program} {ops : Array Oper} {Q : Exit → Act → World → Prop} {o : Oper} {rest : List Oper} {a : Act} {W : World} {t : Tmp} {xs : Array Operand} {ts : Array TypeId} (_ho : o.op = .call { callee := .value (.tmp t), args := xs, argTypes := ts }) (h : wpList P ops Q (o :: rest) a W) : wpList P ops Q (o :: rest) a W := h
/-- A call through a function value that holds captured variables, in a region that draws. -/
theorem goesc_ {caps : Array Value} {K : Act → World → Prop} {N : Option Tmp} {P : Program} {ops : Array Oper} {oi : Oper} {a : Act} {w : World} {Q : Exit → Act → World → Prop} {f : FuncId} {fn : Func} {x : Operand} {xs : Array Operand} {ts : Array TypeId} (hf : P.funcs[f]? = some fn) (hname : (fn.name == "runtime.NumGoroutine") = false) (hb : fn.body.isSome = true) (args : Array Value)
    (hw : Region.wanted oi (yielded ops a.tmps) = true) (hN : oi.dst = N) (hop : oi.op = .call { callee := .value x, args := xs, argTypes := ts }) (hx : a.eval x = .func (.func f) #[] caps) (hargs : xs.map a.eval ++ caps = args)
    (h : Calls P f args w fun e w' => ∃ v, e = .returned v ∧ K (a.put N v) w') : if Region.wanted oi (yielded ops a.tmps) = true then Oper.wp P oi a w K Q else K (a.put N undef) w := by
  refine call_ f args hw hN ?_ h
  have he := enters_ hf hname hb args w
  unfold execOp
  simp [hop, resolve, Deferred.ofValue, invoke, hx, hargs, he]
/-- The same in a plain region. -/
theorem goescL_ {caps : Array Value} {rest : List Oper} {P : Program} {ops : Array Oper} {oi : Oper} {a : Act} {w : World} {Q : Exit → Act → World → Prop} {f : FuncId} {fn : Func} {x : Operand} {xs : Array Operand} {ts : Array TypeId} (N : Option Tmp) (hd : oi.dst = N) (hg : oi.guard = none) (hf : P.funcs[f]? = some fn) (hname : (fn.name == "runtime.NumGoroutine") = false) (hb : fn.body.isSome = true) (args : Array Value)
    (hop : oi.op = .call { callee := .value x, args := xs, argTypes := ts }) (hx : a.eval x = .func (.func f) #[] caps) (hargs : xs.map a.eval ++ caps = args)
    (h : Calls P f args w fun e w' => ∃ v, e = .returned v ∧ wpList P ops Q rest (a.put N v) w') : wpList P ops Q (oi :: rest) a w := by
  refine wpList_plain hg fun K hK => ?_
  have he := enters_ hf hname hb args w
  have hrun : (execOp a.eval oi).run P w = .ok (.enter f args) w := by
    unfold execOp
    simp [hop, resolve, Deferred.ofValue, invoke, hx, hargs, he]
  unfold Oper.wp
  rw [hrun, Oper.upon_enter]
  refine h.mono fun e w'' hh => ?_
  obtain ⟨v, rfl, hk⟩ := hh
  subst hd
  exact hK _ _ hk
theorem zeroCells_one (z : Value) (n : Nat) : (Builtin.zeroCells #[z] n).toList = List.replicate n z := by
  apply List.ext_getElem
  · simp [Builtin.zeroCells]
  · intro i h1 h2
    simp [Builtin.zeroCells, Nat.mod_one]
theorem R_zeros {k : IntKind} {e base g cap : Nat} {ok : Nat → Prop} {n : Nat} (m : Nat) : ∀ (i : Nat) (W : World) (xs : List Int), (Kd.int k).R e W base ok (.slice (some ⟨g, 0, none⟩) n cap) xs → i + m = n →
    (Kd.int k).R e (W.setCells g i (List.replicate m (.int k 0))) base ok (.slice (some ⟨g, 0, none⟩) n cap) (xs.take i ++ List.replicate m 0) ∧ W.grownBy (W.setCells g i (List.replicate m (.int k 0))) (some g) := by
  induction m with
  | zero =>
    intro i W xs h e1
    have hn := (Kd.R_reads' h).1
    refine ⟨?_, ?_⟩
    · rw [show xs.take i ++ List.replicate 0 (0 : Int) = xs by rw [List.take_of_length_le (by omega)]; simp]
      exact h
    · exact ⟨rfl, rfl, rfl, Nat.le_refl _, fun _ _ _ => rfl⟩
  | succ m ih =>
    intro i W xs h e1
    have hn := (Kd.R_reads' h).1
    obtain ⟨h2, h3⟩ := Kd.R_putg (enc := Value.int k) (h1 := fun _ => rfl) h (i : Int) (0 : Int)
    rw [Int.toNat_natCast] at h2 h3
    obtain ⟨h4, h5⟩ := ih (i + 1) _ _ h2 (by omega)
    refine ⟨?_, h3.trans h5⟩
    rw [show xs.take i ++ List.replicate (m + 1) (0 : Int) = (xs.set i 0).take (i + 1) ++ List.replicate m 0 by
      rw [List.replicate_succ, List.take_succ_eq_append_getElem (by rw [List.length_set]; omega), List.take_set_of_le (Nat.le_refl _)]
      simp]
    exact h4
theorem R_clear {P : Program} {ops : Array Oper} {rest : List Oper} {o : Oper} {a : Act} {Q : Exit → Act → World → Prop} {k : IntKind} {w0 W : World} (base : Nat) (hgd : o.guard = none) (x : Operand) (t e : TypeId) (by_ : Nat) (ho : o.op = .call { callee := .builtin .clear, args := #[x], argTypes := #[t] })
    (ht : P.underlying t = some (.slice e)) (hinfo : (P.info? e).map (fun i => (i.zero, i.size, i.bytes)) = some (some (.int k 0), 1, by_)) {g n c i m c2 : Nat} {A : Option Addr} {xs : List Int} {ok : Nat → Prop}
    (hx : a.eval x = .slice A m c2) (hA : A = if c = i then some ⟨g, 0, none⟩ else (some (⟨g, 0, none⟩ : Addr)).map (·.add (i * 1))) (hm : m = n - i) (hi : i ≤ n)
    (HO : (Kd.int k).R e W base ok (.slice (some ⟨g, 0, none⟩) n c) xs) (HB : Below base w0 W) (hbase : base ≤ W.heap.size)
    (h : ∀ w1, (Kd.int k).R e w1 base ok (.slice (some ⟨g, 0, none⟩) n c) (xs.take i ++ List.replicate (n - i) 0) → Below base w0 w1 → W.grownBy w1 (some g) → wpList P ops Q rest (a.put o.dst (.tuple #[])) w1) : wpList P ops Q (o :: rest) a W := by
  obtain ⟨i0, hi0, hz⟩ := Option.map_eq_some_iff.1 hinfo
  injection hz with hz hsz
  subst hm
  obtain ⟨h1, h2⟩ := R_zeros (n - i) i W xs HO (by omega)
  have hrun : (Builtin.clear_ #[t] o.type #[.slice A (n - i) c2]).run P W = .ok (.tuple #[]) (W.setCells g i (List.replicate (n - i) (.int k 0))) := by
    by_cases z : n - i = 0
    · rw [z]
      cases A <;> simp [Builtin.clear_, run_underlying ht, World.setCells]
    · have HO' := HO
      obtain ⟨_, inner, hown, hr⟩ := HO'
      rcases hown.2 with ⟨hv, _⟩ | ⟨g', cap', cur, hv, hb, hh, hnc, hcm, hcs, _⟩
      · cases hv
      injection hv with ha _ hc
      injection ha with ha
      injection ha with hg'
      subst hg'; subst hc
      have hne : ¬ c = i := by omega
      rw [if_neg hne] at hA
      have eA : A = some ⟨g, i, none⟩ := by rw [hA]; simp [Addr.add] <;> (intro h_; omega)
      subst eA
      have hfit : n ≤ cur.size := by
        have hsz1 : (Kd.int k).sz = 1 := rfl
        rw [hsz1] at hcs
        omega
      have hst := run_storeCells_cells (P := P) g i (List.replicate (n - i) (.int k 0)) 0 W (fun j hj => by rw [List.length_replicate] at hj; rw [cell_of_row W g _ cur e (0, 0) hh]; simp; omega) (fun j _ => blk_frozen hh _) (fun u hu => by rw [(List.mem_replicate.1 hu).2]; rfl)
      simp only [Nat.add_zero] at hst
      obtain ⟨m', hm'⟩ : ∃ m', n - i = m' + 1 := ⟨n - i - 1, by omega⟩
      rw [hm'] at hst ⊢
      simp [Builtin.clear_, run_underlying ht, zeroValue, typeInfo, hi0, hz, Value.cells, zeroCells_one, hst]
  refine wpList_plain hgd fun K hK => ?_
  unfold Oper.wp execOp
  simp only [ho, resolve, invoke, builtin, Sem.run_bind, Sem.run_pure, Result.andThen_ok, List.map_toArray, List.map_cons, List.map_nil, hx, hrun]
  exact hK _ _ (h _ h1 (HB.grown h2 hbase (fun k hk => by injection hk with hk; subst hk; exact Kd.R_base HO _ (by simp [Value.ownBlock]))) h2)
/-- clear(s[i:]) of a row of the call's own, of whole numbers: what was there from i on is 0. -/
theorem R_clearA {P : Program} {ops : Array Oper} {rest : List Oper} {o : Oper} {a : Act} {Q : Exit → Act → World → Prop} {k : IntKind} {w0 W : World} (base : Nat) (hgd : o.guard = none) (x : Operand) (t e : TypeId) (by_ : Nat) (ho : o.op = .call { callee := .builtin .clear, args := #[x], argTypes := #[t] })
    (ht : P.underlying t = some (.slice e)) (hinfo : (P.info? e).map (fun i => (i.zero, i.size, i.bytes)) = some (some (.int k 0), 1, by_)) {n c i m c2 : Nat} {A A0 : Option Addr} {xs : List Int} {ok : Nat → Prop}
    (hx : a.eval x = .slice A m c2) (hA : A = if c = i then A0 else A0.map (·.add (i * 1))) (hm : m = n - i) (hi : i ≤ n)
    (HO : (Kd.int k).R e W base ok (.slice A0 n c) xs) (HB : Below base w0 W) (hbase : base ≤ W.heap.size)
    (h : ∀ w1, (Kd.int k).R e w1 base ok (.slice A0 n c) (xs.take i ++ List.replicate (n - i) 0) → Below base w0 w1 → W.grownBy w1 (Value.slice A0 n c).ownBlock → wpList P ops Q rest (a.put o.dst (.tuple #[])) w1) : wpList P ops Q (o :: rest) a W := by
  by_cases z : n - i = 0
  · have hrun : (Builtin.clear_ #[t] o.type #[.slice A m c2]).run P W = .ok (.tuple #[]) W := by
      rw [hm, z]
      cases A <;> simp [Builtin.clear_, run_underlying ht]
    refine wpList_plain hgd fun K hK => ?_
    unfold Oper.wp execOp
    simp only [ho, resolve, invoke, builtin, Sem.run_bind, Sem.run_pure, Result.andThen_ok, List.map_toArray, List.map_cons, List.map_nil, hx, hrun]
    refine hK _ _ (h _ ?_ HB ⟨rfl, rfl, rfl, Nat.le_refl _, fun _ _ _ => rfl⟩)
    have hn := (Kd.R_reads' HO).1
    rw [z, List.take_of_length_le (by omega)]
    simpa using HO
  · have hn := (Kd.R_reads' HO).1
    obtain ⟨g, cap, e1, _⟩ := Kd.R_form HO (by omega)
    injection e1 with ea _ _
    subst ea
    exact R_clear base hgd x t e by_ ho ht hinfo hx hA hm hi HO HB hbase h
/-- A variable in memory, behind a call. -/
theorem bkb_ {g : Nat} {o : Obj} {W V w' : World} (h : Aside0 (W.heap[g]? = some o)) (hb : Below V.heap.size V w') (e : V.heap = W.heap) : Aside0 (w'.heap[g]? = some o) := ⟨blk_below (by rw [e]; exact h.out) hb⟩
theorem hbs_ {w W V w2 : World} (h : Aside0 (Below w.heap.size w W)) (hb : Below V.heap.size V w2) (e : V.heap = W.heap) (e1 : V.os = W.os) (e2 : V.tape = W.tape) (e3 : V.output = W.output) : Aside0 (Below w.heap.size w w2) :=
  ⟨below_step (show Below w.heap.size w V from ⟨e1.trans h.out.os, e2.trans h.out.tape, e3.trans h.out.output, by rw [e]; exact h.out.size, fun k hk => by rw [e]; exact h.out.block k hk⟩) hb⟩
theorem nbl_ {g g2 : Nat} {o : Obj} {W V : World} (h : Aside0 (W.heap[g]? = some o)) (hg : g2 = V.heap.size) (e : V.heap = W.heap) : Aside0 (g ≠ g2) := ⟨by rw [hg, e]; exact Nat.ne_of_lt (blk_lt h.out)⟩
theorem nbg_ {g g2 : Nat} {o : Obj} {W V : World} (h : Aside0 (W.heap[g]? = some o)) (hg : g2 = V.heap.size) (e : V.heap = W.heap) : Aside0 (g2 ≠ g) := ⟨by rw [hg, e]; exact Nat.ne_of_gt (blk_lt h.out)⟩
theorem bc_ {g T : Nat} {cs : Array Value} {W : World} (h : Aside0 (W.heap[g]? = some (.cells cs T (0, 0)))) (i : Nat) {v : Value} (e : cs[i]? = some v) : W.cell? ⟨g, i, none⟩ = some v := (blk_cell h.out i).trans e
/-- Another cell of the block that is written. -/
theorem cell_off_ {W : World} {g i j : Nat} {v : Value} (h : i ≠ j) : (W.setCell ⟨g, i, none⟩ v).cell? ⟨g, j, none⟩ = W.cell? ⟨g, j, none⟩ := by
  refine World.cell?_setCell_other _ _ _ _ (fun e => ?_)
  injection e with _ e _
  exact h e
/-- A row of Bools, by how many of each stand in it one behind the other, beginning with true. -/
def bm_ (l : List Nat) : Array Bool := (l.foldr (fun n (s : Bool × List Bool) => (!s.1, List.replicate n (!s.1) ++ s.2)) (l.length % 2 == 0, [])).2.toArray
/-- A variable in memory, as what its pointer leads to. -/
theorem cap_C {α : Type} {d : Kd α} {w : World} {g T : Nat} {cs : Array Value} {x : α} (h : w.heap[g]? = some (.cells cs T (0, 0))) (k : d.K w x cs.toList) (hs : cs.size = d.sz) : d.C w (some ⟨g, 0, none⟩) 1 [x] := by
  refine ⟨rfl, by decide, fun _ => ⟨_, rfl, fun j p hj => ?_⟩⟩
  obtain rfl : j = 0 := by
    cases j with
    | zero => rfl
    | succ j => simp at hj
  obtain rfl : x = p := by simpa using hj
  refine ⟨cs.toList, by simpa using hs, k, fun i u hu => ?_⟩
  have hc := blk_cell h i
  rw [show (⟨g, 0, none⟩ : Addr).add (0 * d.sz + i) = ⟨g, i, none⟩ by simp [Addr.add] <;> (intro h_; omega)]
  rw [hc]; simpa using hu
/-- A call through a function value in a slot, in a plain region. -/
theorem goesvL_ {rest : List Oper} {P : Program} {ops : Array Oper} {oi : Oper} {a : Act} {w : World} {Q : Exit → Act → World → Prop} {f : FuncId} {fn : Func} {x : Operand} {xs : Array Operand} {ts : Array TypeId} (N : Option Tmp) (hd : oi.dst = N) (hg : oi.guard = none) (hf : P.funcs[f]? = some fn) (hname : (fn.name == "runtime.NumGoroutine") = false) (hb : fn.body.isSome = true) (args : Array Value)
    (hop : oi.op = .call { callee := .value x, args := xs, argTypes := ts }) (hx : a.eval x = .func (.func f) #[] #[]) (hargs : xs.map a.eval = args)
    (h : Calls P f args w fun e w' => ∃ v, e = .returned v ∧ wpList P ops Q rest (a.put N v) w') : wpList P ops Q (oi :: rest) a w := by
  refine wpList_plain hg fun K hK => ?_
  have he := enters_ hf hname hb args w
  have hrun : (execOp a.eval oi).run P w = .ok (.enter f args) w := by
    unfold execOp
    simp [hop, resolve, Deferred.ofValue, invoke, hx, hargs, he]
  unfold Oper.wp
  rw [hrun, Oper.upon_enter]
  refine h.mono fun e w'' hh => ?_
  obtain ⟨v, rfl, hk⟩ := hh
  subst hd
  exact hK _ _ hk
section
variable {P : Program} {ops : Array Oper} {Q : Exit → Act → World → Prop} {md : Region.Mode} {R : Nat → World → World → Prop}
/-- Whatever order is picked from here on, and R tells of the worlds ahead of each operation and behind it. -/
def wpAnyR (P : Program) (md : Region.Mode) (ops : Array Oper) (Q : Exit → Act → World → Prop) (R : Nat → World → World → Prop) : Nat → Array Bool → Act → World → Prop
  | 0, listed, a, w => Region.ready md ops listed = [] ∧ Q .normal a w
  | fuel + 1, listed, a, w =>
    (Region.ready md ops listed = [] → Q .normal a w) ∧
    ∀ i ∈ Region.ready md ops listed, wpOp P ops Q i (fun a' w' => R i w w' ∧ wpAnyR P md ops Q R fuel (listed.setIfInBounds i true) a' w') a w
theorem wpAny_of_R : ∀ (fuel : Nat) (listed : Array Bool) (a : Act) (w : World), wpAnyR P md ops Q R fuel listed a w → wpAny P md ops Q fuel listed a w
  | 0, _, _, _, h => h
  | fuel + 1, _, _, _, h => ⟨h.1, fun i hi => wpOp_mono (fun a' w' h' => wpAny_of_R fuel _ a' w' h'.2) (h.2 i hi)⟩
theorem wpAnyR_first {S : World → Prop} {ds : List Nat} {i : Nat} {oi : Oper} {v : Value} (hi : ops[i]? = some oi) (hsel : ∀ (j : Nat) (o : Oper) cs b, ops[j]? = some o → o.op ≠ .select cs b)
    (hQ : ∀ c a w, Q (.panic c) (a.put oi.dst v) w → Q (.panic c) a w) (n : Nat) (hRS : ∀ j w w', j ∉ ds → R j w w' → S w → S w') (hRi : ∀ w, R i w w) :
    ∀ (fuel : Nat) (listed : Array Bool) (a : Act) (w : World),
      (∀ j oj, ops[j]? = some oj → j ≠ i → listed.getD j true = false → (∀ e ∈ oj.after, Region.binds md e = true → e.on ≠ i) → oi.apart ops oj = true) →
      ListedClosed md ops listed → (∀ d ∈ ds, listed.getD d true = false → Region.reachB md ops i n d = true) →
      i ∈ Region.ready md ops listed → YieldsIf P ops S oi v a → S w →
      wpAnyR P md ops Q R fuel (listed.setIfInBounds i true) (a.put oi.dst v) w → wpAnyR P md ops Q R (fuel + 1) listed a w := by
  intro fuel
  induction fuel with
  | zero =>
    intro listed a w _ _ _ hr hy hS H
    refine ⟨fun h => (by rw [h] at hr; cases hr), fun j hj => ?_⟩
    by_cases hji : j = i
    · subst hji; exact hy.wpOp hi hS ⟨hRi _, H⟩
    · have := ready_mono hj hji
      rw [H.1] at this
      cases this
  | succ fuel ih =>
    intro listed a w hfree hc hd hr hy hS H
    refine ⟨fun h => (by rw [h] at hr; cases hr), fun j hj => ?_⟩
    by_cases hji : j = i
    · subst hji; exact hy.wpOp hi hS ⟨hRi _, H⟩
    · have h1 := H.2 j (ready_mono hj hji)
      obtain ⟨hjun, oj, hoj, hall⟩ := mem_ready.1 hj
      have hiun := (mem_ready.1 hr).1
      have hnot : ∀ e ∈ oj.after, Region.binds md e = true → e.on ≠ i := fun e he hb heq => by
        have h1 := hall e he hb
        rw [heq] at h1
        rcases Nat.lt_or_ge i listed.size with h' | h'
        · simp [h'] at hiun h1; rw [hiun] at h1; cases h1
        · simp [Array.getElem?_eq_none h'] at h1
      have hjd : j ∉ ds := fun hm => Region.reach_not_ready hc (hd j hm hjun) hiun hj
      have h2 := wpOp_putIf hoj (hfree j oj hoj hji hjun hnot) (fun cs b => hsel i oi cs b hi) (fun cs b => hsel j oj cs b hoj) hQ hy h1
      have hfree' : ∀ k ok, ops[k]? = some ok → k ≠ i → (listed.setIfInBounds j true).getD k true = false →
          (∀ e ∈ ok.after, Region.binds md e = true → e.on ≠ i) → oi.apart ops ok = true := fun k ok hk hki hun hno => by
        refine hfree k ok hk hki ?_ hno
        by_cases hjk : j = k
        · subst hjk; exact hjun
        · rw [getD_set_ne true hjk] at hun; exact hun
      have hd' : ∀ d ∈ ds, (listed.setIfInBounds j true).getD d true = false → Region.reachB md ops i n d = true := fun d hm hun => by
        refine hd d hm ?_
        by_cases hjk : j = d
        · subst hjk; exact hjun
        · rw [getD_set_ne true hjk] at hun; exact hun
      refine wpOp_mono (fun a' w' h3 => ⟨h3.2.1, ih (listed.setIfInBounds j true) a' w' hfree' (hc.set hj) hd' (ready_mono hr (Ne.symm hji)) h3.1 (hRS j w w' hjd h3.2.1 hS) ?_⟩) h2
      rw [Array.setIfInBounds_comm _ _ hji]
      exact h3.2.2
theorem wpAnyR_any {i : Nat} {oi : Oper} {v : Value} (hi : ops[i]? = some oi) (hsel : ∀ (j : Nat) (o : Oper) cs b, ops[j]? = some o → o.op ≠ .select cs b)
    (hQ : ∀ c a w, Q (.panic c) (a.put oi.dst v) w → Q (.panic c) a w) (hRi : ∀ w, R i w w) :
    ∀ (fuel : Nat) (listed : Array Bool) (a : Act) (w : World),
      (∀ j oj, ops[j]? = some oj → j ≠ i → listed.getD j true = false → (∀ e ∈ oj.after, Region.binds md e = true → e.on ≠ i) → oi.apart ops oj = true) →
      i ∈ Region.ready md ops listed → Yields P ops oi v a →
      wpAnyR P md ops Q R fuel (listed.setIfInBounds i true) (a.put oi.dst v) w → wpAnyR P md ops Q R (fuel + 1) listed a w := by
  intro fuel
  induction fuel with
  | zero =>
    intro listed a w _ hr hy H
    refine ⟨fun h => (by rw [h] at hr; cases hr), fun j hj => ?_⟩
    by_cases hji : j = i
    · subst hji; exact (hy.yieldsIf (S := fun _ => True)).wpOp hi trivial ⟨hRi _, H⟩
    · have := ready_mono hj hji
      rw [H.1] at this
      cases this
  | succ fuel ih =>
    intro listed a w hfree hr hy H
    refine ⟨fun h => (by rw [h] at hr; cases hr), fun j hj => ?_⟩
    by_cases hji : j = i
    · subst hji; exact (hy.yieldsIf (S := fun _ => True)).wpOp hi trivial ⟨hRi _, H⟩
    · have h1 := H.2 j (ready_mono hj hji)
      obtain ⟨hjun, oj, hoj, hall⟩ := mem_ready.1 hj
      have hiun := (mem_ready.1 hr).1
      have hnot : ∀ e ∈ oj.after, Region.binds md e = true → e.on ≠ i := fun e he hb heq => by
        have h1 := hall e he hb
        rw [heq] at h1
        rcases Nat.lt_or_ge i listed.size with h' | h'
        · simp [h'] at hiun h1; rw [hiun] at h1; cases h1
        · simp [Array.getElem?_eq_none h'] at h1
      have h2 := wpOp_put hoj (hfree j oj hoj hji hjun hnot) (fun cs b => hsel i oi cs b hi) (fun cs b => hsel j oj cs b hoj) hQ hy h1
      have hfree' : ∀ k ok, ops[k]? = some ok → k ≠ i → (listed.setIfInBounds j true).getD k true = false →
          (∀ e ∈ ok.after, Region.binds md e = true → e.on ≠ i) → oi.apart ops ok = true := fun k ok hk hki hun hno => by
        refine hfree k ok hk hki ?_ hno
        by_cases hjk : j = k
        · subst hjk; exact hjun
        · rw [getD_set_ne true hjk] at hun; exact hun
      refine wpOp_mono (fun a' w' h3 => ⟨h3.2.1, ih (listed.setIfInBounds j true) a' w' hfree' (ready_mono hr (Ne.symm hji)) h3.1 ?_⟩) h2
      rw [Array.setIfInBounds_comm _ _ hji]
      exact h3.2.2
/-- Two facts, each with its own last operations. -/
def R2_ (S1 : World → Prop) (d1 : List Nat) (S2 : World → Prop) (d2 : List Nat) (i : Nat) (w w' : World) : Prop := (i ∉ d1 → S1 w → S1 w') ∧ (i ∉ d2 → S2 w → S2 w')
theorem R2_.rfl_ {S1 : World → Prop} {d1 : List Nat} {S2 : World → Prop} {d2 : List Nat} (i : Nat) (w : World) : R2_ S1 d1 S2 d2 i w w := ⟨fun _ h => h, fun _ h => h⟩
variable {S1 S2 : World → Prop} {d1 d2 : List Nat}
theorem startR_ {id n : Nat} {a : Act} {w : World} (S1 : World → Prop) (d1 : List Nat) (S2 : World → Prop) (d2 : List Nat) (l : Array Bool) (hm : P.follows .mixedOrders = true) (hn : ops.size = n) (hl : Array.replicate n false = l) (h1 : S1 w.drew) (h2 : S2 w.drew)
    (h : S1 w.drew ∧ S2 w.drew → wpAnyR P .any ops Q (R2_ S1 d1 S2 d2) n l a w.drew) : (Code.region id ops true).wp P Q a w := by
  subst hn
  subst hl
  exact wp_region_any hm (wpAny_of_R _ _ _ _ (h ⟨h1, h2⟩))
theorem pureR_ {i : Nat} {N : Option Tmp} {oi : Oper} {v : Value} {fuel : Nat} {l : Array Bool} {a : Act} {w : World} (l' : Array Bool) (hi : ops[i]? = some oi) (hN : oi.dst = N) (hc : anyB md ops l l' i = true)
    (hQ : ∀ c a w, Q (.panic c) (a.put oi.dst v) w → Q (.panic c) a w) (hy : Yields P ops oi v a) {a' : Act} (ha : a.put N v = a')
    (h : wpAnyR P md ops Q (R2_ S1 d1 S2 d2) fuel l' a' w) : wpAnyR P md ops Q (R2_ S1 d1 S2 d2) (fuel + 1) l a w := by
  subst ha
  subst hN
  simp only [anyB, Bool.and_eq_true, beq_iff_eq] at hc
  obtain ⟨⟨⟨h1, h2⟩, h3⟩, h6⟩ := hc
  subst h6
  exact wpAnyR_any hi (Region.noSelect_spec h1) hQ (R2_.rfl_ i) fuel l a w (Region.free_spec hi h2) (by simpa using h3) hy h
theorem take1R_ {i : Nat} {N : Option Tmp} {oi : Oper} {v : Value} {fuel : Nat} {l : Array Bool} {a : Act} {w : World} (l' : Array Bool) (hi : ops[i]? = some oi) (hN : oi.dst = N) (hc : takeB md ops d1 l l' i = true)
    (hQ : ∀ c a w, Q (.panic c) (a.put oi.dst v) w → Q (.panic c) a w) (hy : YieldsIf P ops S1 oi v a) (hS : S1 w) {a' : Act} (ha : a.put N v = a')
    (h : wpAnyR P md ops Q (R2_ S1 d1 S2 d2) fuel l' a' w) : wpAnyR P md ops Q (R2_ S1 d1 S2 d2) (fuel + 1) l a w := by
  subst ha
  subst hN
  simp only [takeB, Bool.and_eq_true, beq_iff_eq] at hc
  obtain ⟨⟨⟨⟨⟨h1, h2⟩, h3⟩, h4⟩, h5⟩, h6⟩ := hc
  subst h6
  exact wpAnyR_first hi (Region.noSelect_spec h1) hQ ops.size (fun j w w' hj h => h.1 hj) (R2_.rfl_ i) fuel l a w (Region.free_spec hi h2) (Region.closedB_spec h4)
    (fun d hm hun => by have := List.all_eq_true.1 h5 d hm; rw [hun] at this; simpa using this) (by simpa using h3) hy hS h
theorem take2R_ {i : Nat} {N : Option Tmp} {oi : Oper} {v : Value} {fuel : Nat} {l : Array Bool} {a : Act} {w : World} (l' : Array Bool) (hi : ops[i]? = some oi) (hN : oi.dst = N) (hc : takeB md ops d2 l l' i = true)
    (hQ : ∀ c a w, Q (.panic c) (a.put oi.dst v) w → Q (.panic c) a w) (hy : YieldsIf P ops S2 oi v a) (hS : S2 w) {a' : Act} (ha : a.put N v = a')
    (h : wpAnyR P md ops Q (R2_ S1 d1 S2 d2) fuel l' a' w) : wpAnyR P md ops Q (R2_ S1 d1 S2 d2) (fuel + 1) l a w := by
  subst ha
  subst hN
  simp only [takeB, Bool.and_eq_true, beq_iff_eq] at hc
  obtain ⟨⟨⟨⟨⟨h1, h2⟩, h3⟩, h4⟩, h5⟩, h6⟩ := hc
  subst h6
  exact wpAnyR_first hi (Region.noSelect_spec h1) hQ ops.size (fun j w w' hj h => h.2 hj) (R2_.rfl_ i) fuel l a w (Region.free_spec hi h2) (Region.closedB_spec h4)
    (fun d hm hun => by have := List.all_eq_true.1 h5 d hm; rw [hun] at this; simpa using this) (by simpa using h3) hy hS h
theorem oneR_ {i : Nat} {N : Option Tmp} {oi : Oper} {fuel : Nat} {l : Array Bool} {a : Act} {w : World} (l' : Array Bool) (hi : ops[i]? = some oi) (hN : oi.dst = N) (hc : readyB md ops l l' i = true)
    (h : ∀ K : Act → World → Prop, Shut (∀ a' w', R2_ S1 d1 S2 d2 i w w' → wpAnyR P md ops Q (R2_ S1 d1 S2 d2) fuel l' a' w' → K a' w') → if Region.wanted oi (yielded ops a.tmps) = true then Oper.wp P oi a w K Q else K (a.put N undef) w) :
    wpAnyR P md ops Q (R2_ S1 d1 S2 d2) (fuel + 1) l a w := by
  subst hN
  simp only [readyB, Bool.and_eq_true, beq_iff_eq] at hc
  obtain ⟨h1, h2⟩ := hc
  subst h2
  refine ⟨fun h0 => (by rw [h1] at h0; cases h0), fun j hj => ?_⟩
  rw [h1] at hj
  obtain rfl : j = i := by simpa using hj
  exact wpOp_step hi (fun K' hK => h K' (fun a w hR hW => hK a w ⟨hR, hW⟩))
theorem doneR_ {l : Array Bool} {a : Act} {w : World} {n : Nat} (hr : (Region.ready md ops l == []) = true) (h : Q .normal a w) : wpAnyR P md ops Q R n l a w := by
  have hr' : Region.ready md ops l = [] := by simpa using hr
  cases n with
  | zero => exact ⟨hr', h⟩
  | succ n => exact ⟨fun _ => h, by rw [hr']; simp⟩
theorem normR_ {fuel : Nat} {l : Array Bool} {a a' : Act} {w : World} (ha : a = a') (h : wpAnyR P md ops Q R fuel l a' w) : wpAnyR P md ops Q R fuel l a w := by
  subst ha
  exact h
end
/-! ### Steps of a region's walk, told briefly: what follows by reckoning is reckoned where a step is taken -/
section
variable {P : Program} {ops : Array Oper} {Q : Exit → Act → World → Prop} {md : Region.Mode} {S : World → Prop} {ds : List Nat}
theorem pq_ {T : Bool × List (List Nat × List Nat)} {fuel : Nat} {l : Array Bool} {a a' : Act} {w : World} {oi : Oper} {v : Value} (i t : Nat) (l' : Array Bool) (hT : Aside0 (rtab md ops = T)) (h : wpAnyLast P md ops Q S ds fuel l' a' w)
    (hi : ops[i]? = some oi := by rfl) (hN : oi.dst = some t := by rfl) (hc : anyT T l.toList l'.toList i = true := by kernel_rfl)
    (hQ : ∀ c a w, Q (.panic c) (a.put oi.dst v) w → Q (.panic c) a w := by exact fun _ _ _ h => h)
    (hy : Yields P ops oi v a := by (refine Or.inl ⟨by rfl, ?_⟩; intro w'; go_simp; with_reducible rfl))
    (ha : a.put (some t) v = a' := by (simp only [Act.put, List.setIfInBounds_toArray, List.set_cons_zero, List.set_cons_succ, i64_w, i32_w]; rfl)) : wpAnyLast P md ops Q S ds (fuel + 1) l a w :=
  pure_ l' hi hN (any_of hT.out hc) hQ hy ha h
theorem tq_ {T : Bool × List (List Nat × List Nat)} {B : List Nat} {fuel : Nat} {l : Array Bool} {a a' : Act} {w : World} {oi : Oper} {v : Value} (i t : Nat) (l' : Array Bool) (hT : Aside0 (rtab md ops = T)) (hW : Aside0 (waitsOk T.2 B = true)) (hS : S w) (h : wpAnyLast P md ops Q S ds fuel l' a' w)
    (hi : ops[i]? = some oi := by rfl) (hN : oi.dst = some t := by rfl) (hc : takeW T B ds l.toList l'.toList i = true := by kernel_rfl)
    (hQ : ∀ c a w, Q (.panic c) (a.put oi.dst v) w → Q (.panic c) a w := by exact fun _ _ _ h => h)
    (hy : YieldsIf P ops S oi v a := by (refine Or.inl ⟨by rfl, ?_⟩; intro w' hs_; go_simp; with_reducible rfl))
    (ha : a.put (some t) v = a' := by (simp only [Act.put, List.setIfInBounds_toArray, List.set_cons_zero, List.set_cons_succ, i64_w, i32_w]; rfl)) : wpAnyLast P md ops Q S ds (fuel + 1) l a w :=
  take_ l' hi hN (take_ofW hT.out hW.out hc) hQ hy hS ha h
theorem oq_ {T : Bool × List (List Nat × List Nat)} {fuel : Nat} {l : Array Bool} {a : Act} {w : World} {oi : Oper} (i : Nat) (N : Option Tmp) (l' : Array Bool) (hT : Aside0 (rtab md ops = T))
    (h : ∀ K : Act → World → Prop, Shut (∀ a' w', S w' → (S w' → wpAnyLast P md ops Q S ds fuel l' a' w') → K a' w') → if Region.wanted oi (yielded ops a.tmps) = true then Oper.wp P oi a w K Q else K (a.put N undef) w)
    (hi : ops[i]? = some oi := by rfl) (hN : oi.dst = N := by rfl) (hc : (readyT T.2 l.toList == [i] && l.toList.set i true == l'.toList) = true := by kernel_rfl) (hd : i ∉ ds := by decide) : wpAnyLast P md ops Q S ds (fuel + 1) l a w :=
  one_ l' hi hN (one_of hT.out hc) hd h
theorem nq_ {fuel : Nat} {l : Array Bool} {a a' : Act} {w : World} {v : Value} (t : Nat) (h : wpAnyLast P md ops Q S ds fuel l a' w)
    (ha : a.put (some t) v = a' := by (simp only [Act.put, List.setIfInBounds_toArray, List.set_cons_zero, List.set_cons_succ, i64_w, i32_w]; rfl)) : wpAnyLast P md ops Q S ds fuel l (a.put (some t) v) w :=
  norm_ ha h
/-- A call, its arguments reckoned. -/
theorem gq_ {oi : Oper} {N : Option Tmp} {a : Act} {w : World} {K : Act → World → Prop} {f : FuncId} {fn : Func} {xs : Array Operand} {ts : Array TypeId} (hf : P.funcs[f]? = some fn) (args : Array Value)
    (h : Calls P f args w fun e w' => ∃ v, e = .returned v ∧ K (a.put N v) w')
    (hname : (fn.name == "runtime.NumGoroutine") = false := by kernel_rfl) (hb : fn.body.isSome = true := by rfl) (hw : Region.wanted oi (yielded ops a.tmps) = true := by rfl) (hN : oi.dst = N := by rfl)
    (hop : oi.op = .call { callee := .value (.func f), args := xs, argTypes := ts } := by rfl)
    (hargs : xs.map a.eval = args := by ((try simp only [List.map_toArray, List.map_cons, List.map_nil]); first | done | rfl | (simp only [List.length_drop, List.length_take]; rfl))) :
    if Region.wanted oi (yielded ops a.tmps) = true then Oper.wp P oi a w K Q else K (a.put N undef) w :=
  goes_ hf hname hb args hw hN hop hargs h
end
section
variable {P : Program} {ops : Array Oper} {Q : Exit → Act → World → Prop} {rest : List Oper} {o : Oper} {a : Act} {Kc : Act → World → Prop}
theorem bxq_ {W : World} (N : Tmp) (cs : Array Value) (t : TypeId) (h : ∀ g, g = W.heap.size → ∀ w1, w1.heap[g]? = some (.cells cs t (0, 0)) → Below W.heap.size W w1 → wpList P ops Q rest (a.put o.dst (.pointer (some ⟨g, 0, none⟩))) w1)
    (hgd : o.guard = none := by rfl) (hd : o.dst = some N := by rfl) (hrun : (execOp a.eval o).run P W = .ok (.value (.pointer (some ⟨W.heap.size, 0, none⟩))) (W.alloc (.cells cs t (0, 0))) := by (first | (go_simp; done) | (go_simp; rfl))) : wpList P ops Q (o :: rest) a W :=
  box_event hgd hd hrun h
theorem bsq_ {W : World} (N : Tmp) (cs : Array Value) (t : TypeId) (h : ∀ g, g = W.heap.size → ∀ w1, w1.heap[g]? = some (.cells cs t (0, 0)) → Below W.heap.size W w1 → Kc (a.put o.dst (.pointer (some ⟨g, 0, none⟩))) w1)
    (hw : Region.wanted o (yielded ops a.tmps) = true := by rfl) (hd : o.dst = some N := by rfl) (hrun : (execOp a.eval o).run P W = .ok (.value (.pointer (some ⟨W.heap.size, 0, none⟩))) (W.alloc (.cells cs t (0, 0))) := by (first | (go_simp; done) | (go_simp; rfl))) : if Region.wanted o (yielded ops a.tmps) = true then Oper.wp P o a W Kc Q else Kc (a.put o.dst undef) W :=
  box_step hw hd hrun h
theorem glq_ {w : World} (N : Option Tmp) {f : FuncId} {fn : Func} {xs : Array Operand} {ts : Array TypeId} (hf : P.funcs[f]? = some fn) (args : Array Value)
    (h : Calls P f args w fun e w' => ∃ v, e = .returned v ∧ wpList P ops Q rest (a.put N v) w')
    (hd : o.dst = N := by rfl) (hg : o.guard = none := by rfl) (hname : (fn.name == "runtime.NumGoroutine") = false := by kernel_rfl) (hb : fn.body.isSome = true := by rfl)
    (hop : o.op = .call { callee := .value (.func f), args := xs, argTypes := ts } := by rfl)
    (hargs : xs.map a.eval = args := by ((try simp only [List.map_toArray, List.map_cons, List.map_nil]); first | done | rfl | (simp only [List.length_drop, List.length_take]; rfl))) : wpList P ops Q (o :: rest) a w :=
  goesL_ N hd hg hf hname hb args hop hargs h
theorem gwq_ {w W V : World} {g : Nat} (h : Aside0 (Below w.heap.size w W)) (hg : g = V.heap.size) (e : V.heap = W.heap) : Aside0 (w.heap.size ≤ g) := ⟨by rw [hg, e]; exact below_size h.out⟩
end
/-- A row of steps, its end put aside. -/
theorem wl_tail_ {P : Program} {ops : Array Oper} {Q : Exit → Act → World → Prop} {l : List Oper} {a : Act} {w : World} (n : Nat) (h : ∀ L2, l.drop n = L2 → wpList P ops Q (l.take n ++ L2) a w) : wpList P ops Q l a w := by
  have := h _ rfl
  rwa [List.take_append_drop] at this
theorem info2 : (Tryd.prog.info? 2).map (fun i => (i.zero, i.size, i.bytes)) = some (some (.int .i64 0), 1, 8) := by kernel_rfl
theorem info4 : (Tryd.prog.info? 4).map (fun i => (i.zero, i.size, i.bytes)) = some (some (.bool false), 1, 1) := by kernel_rfl
theorem info24 : (Tryd.prog.info? 24).map (fun i => (i.zero, i.size, i.bytes)) = some (some (.int .i64 0), 1, 8) := by kernel_rfl
-- the values' own types

end Go.Proofs.YtoplbhohaaielaaDoor.Q
