/- The engine, part K: states, regions, code, functions: the evaluator, The engine, part L: regions in the order of the text, code, functions, The engine, part X: regions whose order is drawn, The engine, part M: code; a state told less of; loops; functions, The engine, part N: functions, Functions: how a way through a function is read, how a loop is told, tables, Functions as plain functions: what the evaluator tells of a function, as a tree over plain data; loops with a number of rounds, The seat's numbers (written by wip/tools/gen_sn.py), Digits, with no program in sight, Long addition, with no program in sight, Long numbers: cutting, Long numbers: sums, Long numbers: sums of many, of words, Comparing, with no program in sight, Long numbers: comparing, Bits, with no program in sight, Long numbers: bits, words, Long multiplication, with no program in sight. -/
import Derived.Test.YtlfdidaeachpoaaCSB1
import Derived.Orders
import Derived.Deep.LoopGhost
import Derived.KernelRfl
import Derived.Test.YtlfdidaeachpoaaProg
/- The engine, part K: states, regions, code, functions: the evaluator. -/
namespace Go.Proofs.Ytlfdidaeachpoaa
open Go Go.RowKit

structure St where
  tmps : List TV
  heap : List (Nat × Ent)

def hget : List (Nat × Ent) → Look
  | [], _ => none
  | x :: l, id => if x.1 = id then some x.2 else hget l id

def hset (id : Nat) (e : Ent) : List (Nat × Ent) → List (Nat × Ent)
  | [] => [(id, e)]
  | x :: l => if x.1 = id then (id, e) :: l else x :: hset id e l

def hupd : List (Nat × Ent) → List (Nat × Ent) → List (Nat × Ent)
  | l, [] => l
  | l, x :: r => hupd (hset x.1 x.2 l) r

theorem hget_hset (id : Nat) (e : Ent) : ∀ l, hget (hset id e l) = upd1 (hget l) id e
  | [] => by
    funext j
    simp only [hset, hget, upd1]
    by_cases h : id = j
    · simp [h]
    · rw [if_neg h, if_neg fun e => h e.symm]
  | x :: l => by
    funext j
    unfold hset
    by_cases hx : x.1 = id
    · rw [if_pos hx]
      simp only [hget, upd1]
      by_cases h : id = j
      · simp [h]
      · rw [if_neg h, if_neg fun e => h e.symm, if_neg fun e => h (hx.symm.trans e)]
    · rw [if_neg hx]
      simp only [hget]
      rw [hget_hset id e l]
      simp only [upd1]
      by_cases h : x.1 = j
      · rw [if_pos h, if_neg fun e => hx (h.trans e), if_pos h]
      · rw [if_neg h, if_neg h]

theorem hget_hupd : ∀ (r l : List (Nat × Ent)), hget (hupd l r) = updAll (hget l) r
  | [], _ => rfl
  | x :: r, l => by
    show hget (hupd (hset x.1 x.2 l) r) = updAll (upd1 (hget l) x.1 x.2) r
    rw [hget_hupd r, hget_hset]

def St.tv (σ : St) (t : Nat) : TV := σ.tmps.getD t (.lf .undef)

def St.op (σ : St) : Operand → Option TV
  | .tmp t => some (σ.tv t)
  | .const v => tvOfVal v
  | .func f => some (.lf (.fn f []))
  | .global _ => none

def St.put (σ : St) (dst : Option Nat) (v : TV) : St := match dst with
  | some d => { σ with tmps := σ.tmps.set d v }
  | none => σ

def St.after (σ : St) (o : Oper) (r : OpRes) : St := { tmps := (σ.put o.dst r.val).tmps, heap := hupd σ.heap r.upd }

inductive Ev where
  | norm (σ : St)
  | ret (σ : St)
  | exit (id : Nat) (σ : St)

/-- What comes of a piece of code: on each way a state, and what must hold on the way. -/
inductive Tree where
  | leaf (e : Ev)
  | ite (c : Bool) (a b : Tree)
  | req (c : Bool) (t : Tree)
  /-- the one way may be gone only if 'c'; the other always may -/
  | may (c : Bool) (a b : Tree)
  | fail

def Tree.sat : Tree → (Ev → Prop) → Prop
  | .leaf e, K => K e
  | .ite c a b, K => (c = true → a.sat K) ∧ (c = false → b.sat K)
  | .req c t, K => c = true ∧ t.sat K
  | .may c a b, K => (c = true → a.sat K) ∧ b.sat K
  | .fail, _ => False

theorem Tree.sat_mono {K K' : Ev → Prop} (h : ∀ e, K e → K' e) : ∀ {t : Tree}, t.sat K → t.sat K'
  | .leaf _, hs => h _ hs
  | .ite _ _ _, hs => ⟨fun hc => Tree.sat_mono h (hs.1 hc), fun hc => Tree.sat_mono h (hs.2 hc)⟩
  | .req _ _, hs => ⟨hs.1, Tree.sat_mono h hs.2⟩
  | .may _ _ _, hs => ⟨fun hc => Tree.sat_mono h (hs.1 hc), Tree.sat_mono h hs.2⟩
  | .fail, hs => hs.elim

/-- The leaves, each handed on. -/
def Tree.bind : Tree → (Ev → Tree) → Tree
  | .leaf e, f => f e
  | .ite c a b, f => .ite c (a.bind f) (b.bind f)
  | .req c t, f => .req c (t.bind f)
  | .may c a b, f => .may c (a.bind f) (b.bind f)
  | .fail, _ => .fail

theorem Tree.sat_bind {K : Ev → Prop} {f : Ev → Tree} : ∀ {t : Tree}, (t.bind f).sat K → t.sat fun e => (f e).sat K
  | .leaf _, hs => hs
  | .ite _ _ _, hs => ⟨fun hc => Tree.sat_bind (hs.1 hc), fun hc => Tree.sat_bind (hs.2 hc)⟩
  | .req _ _, hs => ⟨hs.1, Tree.sat_bind hs.2⟩
  | .may _ _ _, hs => ⟨fun hc => Tree.sat_bind (hs.1 hc), Tree.sat_bind hs.2⟩
  | .fail, hs => hs.elim

/-! ### Regions -/
def dstOf (ops : Array Oper) (j : Nat) : Option Nat := (ops[j]?).bind (·.dst)

def lookDec : List (Nat × Option Bool) → Nat → Option (Option Bool)
  | [], _ => none
  | x :: l, j => if x.1 = j then some x.2 else lookDec l j

/-- What has been decided of guards stays so as long as nobody writes there. -/
def keepDec (ops : Array Oper) (dst : Option Nat) : List (Nat × Option Bool) → List (Nat × Option Bool)
  | [] => []
  | x :: l => if dstOf ops x.1 = dst then keepDec ops dst l else x :: keepDec ops dst l

/-- Is a slice nil? It may be, if nothing is in it. -/
def nilAsk (P : Program) (look : Look) (t : TypeId) (x y : Option TV) : Option Bool :=
  match P.underlying t, x, y with
  | some (.slice _), some (.lf (.dat _ xs)), some (.lf .nil) => some xs.isEmpty
  | some (.slice _), some (.lf (.ref id)), some (.lf .nil) => match look id with
    | some ⟨_, .arr _ _ xs⟩ => some xs.isEmpty
    | _ => none
  | _, _, _ => none

def nilEq (P : Program) (look : Look) (ρ : Operand → Option TV) (o : Oper) : Option (Bool × Bool) :=
  match o.op with
  | .binOp .eql t x y _ => (nilAsk P look t (ρ x) (ρ y)).map fun e => (e, false)
  | .binOp .neq t x y _ => (nilAsk P look t (ρ x) (ρ y)).map fun e => (e, true)
  | _ => none

def regExec (P : Program) (T : CallT) (σ : St) (o : Oper) (K : St → Tree) : Tree :=
  match evalOp P T (hget σ.heap) σ.op o with
  | some r => .req r.vc (K (σ.after o r))
  | none => match nilEq P (hget σ.heap) σ.op o with
    | some (e, neg) => .may e (K (σ.put o.dst (.lf (.bool (true != neg))))) (K (σ.put o.dst (.lf (.bool (false != neg)))))
    | none => .fail

def regGo (P : Program) (T : CallT) (ops : Array Oper) : List Oper → Nat → List (Nat × Option Bool) → St → (St → Tree) → Tree
  | [], _, _, σ, K => K σ
  | o :: rest, i, dec, σ, K =>
    let go (dec : List (Nat × Option Bool)) (σ : St) : Tree := regExec P T σ o fun σ' => regGo P T ops rest (i + 1) (keepDec ops o.dst dec) σ' K
    let skip (dec : List (Nat × Option Bool)) (σ : St) : Tree := regGo P T ops rest (i + 1) ((i, none) :: keepDec ops o.dst dec) (σ.put o.dst (.tup [])) K
    match o.guard with
    | none => go dec σ
    | some (j, want) => match lookDec dec j with
      | some (some b) => if b = want then go dec σ else skip dec σ
      | some none => skip dec σ
      | none => match dstOf ops j with
        | none => .fail
        | some d => match σ.tv d with
          | .lf (.bool c) =>
            let σt := σ.put (some d) (.lf (.bool true))
            let σf := σ.put (some d) (.lf (.bool false))
            .ite c (if want then go ((j, some true) :: dec) σt else skip ((j, some true) :: dec) σt) (if want then skip ((j, some false) :: dec) σf else go ((j, some false) :: dec) σf)
          | _ => .fail

/-! ### Regions whose order is drawn -/
/-- What must have come before each operation of a region, as a number's bits. -/
def precOf (acc : List Nat) (o : Oper) : Nat := o.after.toList.foldl (fun m e => if Region.binds .any e then m ||| 2 ^ e.on ||| acc.getD e.on 0 else m) 0

def precGo : List Oper → List Nat → List Nat
  | [], acc => acc
  | o :: r, acc => precGo r (acc ++ [precOf acc o])

/-- What an operation read of the heap and wrote there. -/
structure Foot where
  rd : List Nat
  wr : List Nat

def restr (rd : List Nat) (look : Look) : Look := fun id => if rd.contains id then look id else none

def newOK (rd : List Nat) (look : Look) (ks : List Nat) : Bool := ks.all fun k => rd.contains k || (look k).isNone

/-- What was written by those that the operation does not wait for; the feet are listed from the last on. -/
def badOf (m : Nat) : List Foot → List Nat
  | [] => []
  | f :: fs => if m.testBit fs.length then badOf m fs else f.wr ++ badOf m fs

def tvIds : TV → List Nat
  | .lf l => leafIds l
  | .agg cs => cs.flatMap leafIds
  | .tup cs => (cs.flatMap (·.2)).flatMap leafIds
  | .rptr cs => cs.flatMap leafIds
  | .eptr id _ _ _ => [id]

/-- What an operation's operands lead to. -/
def opIds (σ : St) (o : Oper) : List Nat := closeIds (hget σ.heap) 4 (addIds (o.op.operands.toList.flatMap fun x => match σ.op x with
  | some v => tvIds v
  | none => []) [])

def drExec (P : Program) (T : CallT) (σ : St) (o : Oper) (bad : List Nat) (K : St → Foot → Tree) : Tree :=
  match evalOp P T (restr [] (hget σ.heap)) σ.op o with
  | some r => if newOK [] (hget σ.heap) (wrOf o.dst r.upd) then .req r.vc (K (σ.after o r) ⟨[], wrOf o.dst r.upd⟩) else .fail
  | none =>
    let rd1 := (opIds σ o).filter fun k => !bad.contains k
    match evalOp P T (restr rd1 (hget σ.heap)) σ.op o with
    | some r => if newOK rd1 (hget σ.heap) (wrOf o.dst r.upd) then .req r.vc (K (σ.after o r) ⟨rd1, wrOf o.dst r.upd⟩) else .fail
    | none =>
      let rd := (σ.heap.map (·.1)).filter fun k => !bad.contains k
      match evalOp P T (restr rd (hget σ.heap)) σ.op o with
      | some r => if newOK rd (hget σ.heap) (wrOf o.dst r.upd) then .req r.vc (K (σ.after o r) ⟨rd, wrOf o.dst r.upd⟩) else .fail
      | none => .fail

def drGo (P : Program) (T : CallT) (ops : Array Oper) (ms : List Nat) : List Oper → Nat → List (Nat × Option Bool) → St → List Foot → (St → List Foot → Tree) → Tree
  | [], _, _, σ, fl, K => K σ fl
  | o :: rest, i, dec, σ, fl, K =>
    let go (dec : List (Nat × Option Bool)) (σ : St) : Tree := drExec P T σ o (badOf (ms.getD i 0) fl) fun σ' q => drGo P T ops ms rest (i + 1) (keepDec ops o.dst dec) σ' (q :: fl) K
    let skip (dec : List (Nat × Option Bool)) (σ : St) : Tree := drGo P T ops ms rest (i + 1) ((i, none) :: keepDec ops o.dst dec) (σ.put o.dst (.tup [])) (⟨[], []⟩ :: fl) K
    match o.guard with
    | none => go dec σ
    | some (j, want) => match lookDec dec j with
      | some (some b) => if b = want then go dec σ else skip dec σ
      | some none => skip dec σ
      | none => match dstOf ops j with
        | none => .fail
        | some d => match σ.tv d with
          | .lf (.bool c) =>
            let σt := σ.put (some d) (.lf (.bool true))
            let σf := σ.put (some d) (.lf (.bool false))
            .ite c (if want then go ((j, some true) :: dec) σt else skip ((j, some true) :: dec) σt) (if want then skip ((j, some false) :: dec) σf else go ((j, some false) :: dec) σf)
          | _ => .fail

def readsOf (ops : Array Oper) (o : Oper) : List Nat :=
  (o.op.operands.toList.filterMap fun | .tmp t => some t | _ => none) ++ (match o.guard with | some (g, _) => (dstOf ops g).toList | none => [])

def hits (xs ys : List Nat) : Bool := xs.any fun x => ys.contains x

/-- Two operations that do not commute. -/
def clash (ops : Array Oper) (x y : Oper) (fx fy : Foot) : Bool :=
  (match x.dst with | some d => (readsOf ops y).contains d || y.dst == some d | none => false) ||
  (match y.dst with | some d => (readsOf ops x).contains d | none => false) || hits fx.wr fy.wr || hits fx.wr fy.rd || hits fy.wr fx.rd

def ordRow (ops : Array Oper) (m : Nat) (y : Oper) (fy : Foot) : List Oper → List Foot → Nat → Bool
  | x :: xs, fx :: fs, i => (m.testBit i || !clash ops x y fx fy) && ordRow ops m y fy xs fs (i + 1)
  | _, _, _ => true

/-- Each later operation waits for each earlier one with which it does not commute, and for none that is later. -/
def ordGo (ops : Array Oper) (xs : List Oper) (fs : List Foot) : List Oper → List Foot → List Nat → Nat → Bool
  | y :: ys, fy :: gs, m :: ms, j => ordRow ops m y fy (xs.take j) (fs.take j) 0 && (y.after.toList.all fun e => !Region.binds .any e || decide (e.on < j)) && ordGo ops xs fs ys gs ms (j + 1)
  | _, _, _, _ => true

def ordOK (ops : Array Oper) (ms : List Nat) (fl : List Foot) : Bool := ordGo ops ops.toList fl ops.toList fl ms 0

def drTree (P : Program) (T : CallT) (ops : Array Oper) (σ : St) : Tree :=
  drGo P T ops (precGo ops.toList []) ops.toList 0 [] σ [] fun σ' fl => if ordOK ops (precGo ops.toList []) fl.reverse then .leaf (.norm σ') else .fail

def regTree (P : Program) (T : CallT) (ops : Array Oper) (draw : Bool) (σ : St) : Tree :=
  if draw then drTree P T ops σ else regGo P T ops ops.toList 0 [] σ fun σ' => .leaf (.norm σ')

/-! ### Code -/
/-- What is told of pieces of code beforehand: regions by their numbers, loops by the block that they stand in. -/
structure Told where
  reg : Nat → St → Option Tree
  loop : Nat → St → Option Tree

def Told.none : Told := ⟨fun _ _ => .none, fun _ _ => .none⟩

def evCode (P : Program) (T : CallT) (L : Told) : Nat → Code → St → Tree
  | _, .skip, σ => .leaf (.norm σ)
  | _, .region id ops draw, σ => match L.reg id σ with
    | some t => t
    | none => regTree P T ops draw σ
  | b, .seq x y, σ => (evCode P T L b x σ).bind fun
    | .norm σ' => evCode P T L b y σ'
    | e => .leaf e
  | b, .cond c x y, σ => match σ.op c with
    | some (.lf (.bool q)) => .ite q (evCode P T L b x σ) (evCode P T L b y σ)
    | _ => .fail
  | _, .block id body, σ => (evCode P T L id body σ).bind fun
    | .exit id' σ' => if id' = id then .leaf (.norm σ') else .leaf (.exit id' σ')
    | e => .leaf e
  | b, .loop _, σ => match L.loop b σ with
    | some t => t
    | none => .fail
  | _, .exit id, σ => .leaf (.exit id σ)
  | _, .ret, σ => .leaf (.ret σ)
  | _, _, _ => .fail

/-! ### Results -/
def resOf (P : Program) (σ : St) : ResultVar → Option TV
  | .tmp t => some (σ.tv t)
  | .cell a t => (evLoad P (hget σ.heap) t (σ.tv a)).map (·.val)

def resList (P : Program) (σ : St) : List ResultVar → Option (List TV)
  | [] => some []
  | x :: xs => match resOf P σ x, resList P σ xs with
    | some v, some vs => some (v :: vs)
    | _, _ => none

def asComp : TV → Option (Bool × List Leaf)
  | .lf l => some (false, [l])
  | .agg cs => some (true, cs)
  | _ => none

def asComps : List TV → Option (List (Bool × List Leaf))
  | [] => some []
  | t :: ts => match asComp t, asComps ts with
    | some c, some cs => some (c :: cs)
    | _, _ => none

def results1 : List TV → Option TV
  | [v] => some v
  | vs => (asComps vs).map .tup

def initTmps (args : List TV) (n : Nat) : List TV := args ++ List.replicate (n - args.length) (.tup [])

def initHeap (k : Nat) : List Ent → List (Nat × Ent)
  | [] => []
  | e :: es => (parBase + k, ⟨e.w, renEB (parBase + ·) e.b⟩) :: initHeap (k + 1) es

def initSt (args : List TV) (es : List Ent) (n : Nat) : St := ⟨initTmps (args.map (renTV (parBase + ·))) n, initHeap 0 es⟩

def evFn (P : Program) (T : CallT) (L : Told) (fn : Func) (c : Code) (args : List TV) (es : List Ent) : Tree := evCode P T L 0 c (initSt args es fn.ntmps)

end Go.Proofs.Ytlfdidaeachpoaa

/- The engine, part L: regions in the order of the text, code, functions. -/
namespace Go.Proofs.Ytlfdidaeachpoaa
open Go Go.RowKit

/-- What a function begins with: where the by-reference blocks are, and which blocks may be read. -/
structure Pin where
  β : Nat → Option Value
  ok : Nat → Prop

structure Sim (π : Pin) (w0 : World) (own : Nat → Prop) (w : World) (a : Act) (σ : St) (β : Nat → Option Value) (ok : Nat → Prop) : Prop where
  inv : Inv w0 own w β ok (hget σ.heap)
  tmps : ∀ t, RepV w ok β (a.tmps.getD t undef) (σ.tv t)
  size : a.tmps.size = σ.tmps.length
  def0 : a.defers = []
  pin : ∀ id v, parBase ≤ id → β id = some v → π.β id = some v
  okB : ∀ b, ok b → π.ok b ∨ own b ∨ w0.heap.size ≤ b

section
variable {P : Program} {T : CallT} {π : Pin} {w0 : World} {own : Nat → Prop} {w : World} {β : Nat → Option Value} {ok : Nat → Prop} {a : Act} {σ : St}

theorem St.tv_put (σ : St) (d : Nat) (v : TV) (t : Nat) : (σ.put (some d) v).tv t = if d = t ∧ t < σ.tmps.length then v else σ.tv t := by
  unfold St.tv St.put
  simp only [List.getD, List.getElem?_set]
  by_cases h : d = t
  · subst h
    by_cases h2 : d < σ.tmps.length
    · simp [h2]
    · simp [h2]
  · simp [h]

theorem St.put_heap (σ : St) (dst : Option Nat) (v : TV) : (σ.put dst v).heap = σ.heap := by cases dst <;> rfl
theorem St.put_length (σ : St) (dst : Option Nat) (v : TV) : (σ.put dst v).tmps.length = σ.tmps.length := by cases dst <;> simp [St.put]

theorem Act.put_getD (a : Act) (d : Nat) (v : Value) (t : Nat) : (a.put (some d) v).tmps.getD t undef = if d = t ∧ t < a.tmps.size then v else a.tmps.getD t undef := by
  unfold Act.put
  simp only [Array.getD_eq_getD_getElem?, Array.getElem?_setIfInBounds]
  by_cases h : d = t
  · subst h
    by_cases h2 : d < a.tmps.size
    · simp [h2]
    · simp [h2]
  · simp [h]

theorem Act.put_size (a : Act) (dst : Option Nat) (v : Value) : (a.put dst v).tmps.size = a.tmps.size := by cases dst <;> simp [Act.put]
theorem Act.put_def (a : Act) (dst : Option Nat) (v : Value) : (a.put dst v).defers = a.defers := by cases dst <;> rfl

theorem RepV.undef (v : Value) : RepV w ok β v (.lf .undef) := trivial

theorem Sim.eval (S : Sim π w0 own w a σ β ok) (x : Operand) (tv : TV) (e : σ.op x = some tv) : RepV w ok β (a.eval x) tv := by
  cases x with
  | tmp t => cases e; exact S.tmps t
  | const v => exact tvOfVal_rep e
  | func f => cases e; exact ⟨[], rfl, trivial⟩
  | global g => cases e

/-- Behind an operation. -/
theorem Sim.after (S : Sim π w0 own w a σ β ok) {o : Oper} {r : OpRes} {v : Value} {w' : World} {β' : Nat → Option Value} {ok' : Nat → Prop} (D : Done w0 own w β ok (hget σ.heap) r.val r.upd v w' β' ok') :
    Sim π w0 own w' (a.put o.dst v) (σ.after o r) β' ok' := by
  refine ⟨?_, fun t => ?_, ?_, ?_, fun id v h1 h2 => S.pin id v h1 (D.pin id v h1 h2), fun b hb => (D.okB b hb).elim (fun h => S.okB b h) .inr⟩
  · show Inv w0 own w' β' ok' (hget (hupd σ.heap r.upd))
    rw [hget_hupd]
    exact D.inv
  · show RepV w' ok' β' _ ((σ.put o.dst r.val).tv t)
    cases hd : o.dst with
    | none => exact (S.tmps t).mono D.hh D.hk D.hβ
    | some d =>
      rw [St.tv_put, Act.put_getD]
      by_cases h : d = t ∧ t < σ.tmps.length
      · rw [if_pos h, if_pos ⟨h.1, by rw [S.size]; exact h.2⟩]
        exact D.rep
      · rw [if_neg h, if_neg (by rw [S.size]; exact h)]
        exact (S.tmps t).mono D.hh D.hk D.hβ
  · rw [Act.put_size, S.size]
    exact (St.put_length ..).symm
  · rw [Act.put_def]
    exact S.def0

/-- A temporary laid anew, on both sides. -/
theorem Sim.put (S : Sim π w0 own w a σ β ok) (dst : Option Nat) {v : Value} {tv : TV} (hr : RepV w ok β v tv) : Sim π w0 own w (a.put dst v) (σ.put dst tv) β ok := by
  refine ⟨by rw [St.put_heap]; exact S.inv, fun t => ?_, by rw [Act.put_size, St.put_length]; exact S.size, by rw [Act.put_def]; exact S.def0, S.pin, S.okB⟩
  cases dst with
  | none => exact S.tmps t
  | some d =>
    rw [St.tv_put, Act.put_getD]
    by_cases h : d = t ∧ t < σ.tmps.length
    · rw [if_pos h, if_pos ⟨h.1, by rw [S.size]; exact h.2⟩]
      exact hr
    · rw [if_neg h, if_neg (by rw [S.size]; exact h)]
      exact S.tmps t

/-- On the abstract side alone: what is there is known by another name. -/
theorem Sim.name (S : Sim π w0 own w a σ β ok) (d : Nat) {tv : TV} (hr : RepV w ok β (a.tmps.getD d Go.undef) tv) : Sim π w0 own w a (σ.put (some d) tv) β ok := by
  refine ⟨S.inv, fun t => ?_, by rw [St.put_length]; exact S.size, S.def0, S.pin, S.okB⟩
  rw [St.tv_put]
  by_cases h : d = t ∧ t < σ.tmps.length
  · rw [if_pos h, ← h.1]
    exact hr
  · rw [if_neg h]
    exact S.tmps t

def DecOK (ops : Array Oper) (σ : St) (dec : List (Nat × Option Bool)) : Prop :=
  ∀ j x, lookDec dec j = some x → match x with
    | some b => ∃ d, dstOf ops j = some d ∧ σ.tv d = .lf (.bool b)
    | none => ∀ d, dstOf ops j = some d → σ.tv d = .tup [] ∨ σ.tmps.length ≤ d

theorem lookDec_keep {ops : Array Oper} {dst : Option Nat} : ∀ {dec : List (Nat × Option Bool)} {j : Nat} {x : Option Bool}, lookDec (keepDec ops dst dec) j = some x → lookDec dec j = some x ∧ dstOf ops j ≠ dst
  | [], _, _, h => by cases h
  | y :: l, j, x, h => by
    unfold keepDec at h
    by_cases hy : dstOf ops y.1 = dst
    · rw [if_pos hy] at h
      have := lookDec_keep h
      unfold lookDec
      by_cases hj : y.1 = j
      · exact absurd (hj ▸ hy) this.2
      · rw [if_neg hj]; exact this
    · rw [if_neg hy] at h
      unfold lookDec at h ⊢
      by_cases hj : y.1 = j
      · rw [if_pos hj] at h ⊢
        exact ⟨h, hj ▸ hy⟩
      · rw [if_neg hj] at h ⊢
        exact lookDec_keep h

theorem DecOK.put {ops : Array Oper} {dec : List (Nat × Option Bool)} (h : DecOK ops σ dec) (dst : Option Nat) (v : TV) : DecOK ops (σ.put dst v) (keepDec ops dst dec) := by
  intro j x hj
  obtain ⟨h1, h2⟩ := lookDec_keep hj
  have h3 := h j x h1
  cases dst with
  | none => exact h3
  | some d' =>
    have hsame : ∀ d, dstOf ops j = some d → (σ.put (some d') v).tv d = σ.tv d := fun d hd => by
      rw [St.tv_put, if_neg]
      rintro ⟨rfl, _⟩
      exact h2 hd
    cases x with
    | some b =>
      obtain ⟨d, hd, ht⟩ := h3
      exact ⟨d, hd, (hsame d hd).trans ht⟩
    | none =>
      intro d hd
      rw [hsame d hd, St.put_length]
      exact h3 d hd

theorem DecOK.after {ops : Array Oper} {dec : List (Nat × Option Bool)} (h : DecOK ops σ dec) (o : Oper) (r : OpRes) : DecOK ops (σ.after o r) (keepDec ops o.dst dec) :=
  h.put o.dst r.val

theorem yielded_of {ops : Array Oper} {j d : Nat} (hd : dstOf ops j = some d) (a : Act) : yielded ops a.tmps j = (match a.tmps.getD d Go.undef with | .bool b => some b | _ => none) := by
  unfold yielded
  unfold dstOf at hd
  rw [hd]
  simp only [Array.getD_eq_getD_getElem?, Option.bind_some]
  cases h : a.tmps[d]? with
  | none => rfl
  | some v => cases v <;> rfl

/-- What stands behind code. -/
def OutOK (π : Pin) (w0 : World) (own : Nat → Prop) (K : Ev → Prop) (e : Exit) (a : Act) (w : World) : Prop :=
  ∃ ev β ok, K ev ∧ match ev with
    | .norm σ => e = .normal ∧ Sim π w0 own w a σ β ok
    | .ret σ => e = .ret ∧ Sim π w0 own w a σ β ok
    | .exit id σ => e = .exit id ∧ Sim π w0 own w a σ β ok

theorem nilAsk_sound (S : Sim π w0 own w a σ β ok) {t : TypeId} {x y : Operand} {e : Bool} (h : nilAsk P (hget σ.heap) t (σ.op x) (σ.op y) = some e) :
    ∃ et A n c, P.underlying t = some (.slice et) ∧ a.eval x = .slice A n c ∧ (A = none → n = 0 ∧ c = 0) ∧ a.eval y = .slice none 0 0 ∧ (A.isNone = true → e = true) := by
  unfold nilAsk at h
  split at h
  · rename_i hu hx hy
    cases h
    obtain ⟨A, cap, hv, h1, _, h2, _⟩ : RepD w ok (.sl _) [a.eval x] _ := S.eval x _ hx
    refine ⟨_, A, _, cap, hu, (List.cons.inj hv).1, fun hA => ⟨by have := h2 hA; omega, h2 hA⟩, S.eval y _ hy, fun hA => ?_⟩
    cases A with
    | some _ => cases hA
    | none =>
      have := h2 rfl
      rw [List.isEmpty_iff, ← List.length_eq_zero_iff]
      omega
  · rename_i id hu hx hy
    split at h
    · rename_i he
      cases h
      obtain ⟨hb, _⟩ : RepL w ok β (a.eval x) (.ref id) := S.eval x _ hx
      obtain ⟨v, us, h1, h2, _⟩ := S.inv.ent id _ he
      rw [hb] at h1
      cases h1
      rcases h2.2 with ⟨hn, h0⟩ | ⟨g, cap, cur, hs, _⟩
      · exact ⟨_, none, 0, 0, hu, hn, fun _ => ⟨rfl, rfl⟩, S.eval y _ hy, fun _ => by rw [List.isEmpty_iff, ← List.length_eq_zero_iff]; exact h0⟩
      · exact ⟨_, _, _, cap, hu, hs, (fun h => by cases h), S.eval y _ hy, (fun h => by cases h)⟩
    · cases h
  · cases h

theorem nilEq_sound (S : Sim π w0 own w a σ β ok) {o : Oper} {e neg : Bool} (h : nilEq P (hget σ.heap) σ.op o = some (e, neg)) :
    ∃ b : Bool, (b = true → e = true) ∧ (execOp a.eval o).run P w = .ok (.value (.bool (b != neg))) w := by
  unfold nilEq at h
  split at h
  · rename_i t x y _ ho
    obtain ⟨e', h1, h2⟩ := Option.map_eq_some_iff.1 h
    cases h2
    obtain ⟨et, A, n, c, hu, hx, hA, hy, hb⟩ := nilAsk_sound S h1
    exact ⟨A.isNone, hb, nil_run (neg := false) rfl ho hu hx hA hy⟩
  · rename_i t x y _ ho
    obtain ⟨e', h1, h2⟩ := Option.map_eq_some_iff.1 h
    cases h2
    obtain ⟨et, A, n, c, hu, hx, hA, hy, hb⟩ := nilAsk_sound S h1
    exact ⟨A.isNone, hb, nil_run (neg := true) rfl ho hu hx hA hy⟩
  · cases h

theorem regGo_sound (hT : SoundT P T) {ops : Array Oper} {Q : Exit → Act → World → Prop} : ∀ (rest : List Oper) (i : Nat) (dec : List (Nat × Option Bool)) (σ : St) (C : St → Tree) (K : Ev → Prop)
    (a : Act) (w : World) (β : Nat → Option Value) (ok : Nat → Prop), (∀ k, rest[k]? = ops[i + k]?) → DecOK ops σ dec → Sim π w0 own w a σ β ok → (regGo P T ops rest i dec σ C).sat K →
    (∀ σ' a' w' β' ok', Sim π w0 own w' a' σ' β' ok' → (C σ').sat K → Q .normal a' w') → wpOps P ops Q (List.range' i rest.length) a w
  | [], _, _, σ, C, K, a, w, β, ok, _, _, S, hs, hQ => hQ σ a w β ok S hs
  | o :: rest, i, dec, σ, C, K, a, w, β, ok, hops, hdec, S, hs, hQ => by
    have ho : ops[i]? = some o := by simpa using (hops 0).symm
    have hrest : ∀ k, rest[k]? = ops[i + 1 + k]? := fun k => by
      have := hops (k + 1)
      rw [show i + 1 + k = i + (k + 1) by omega]
      simpa using this
    rw [List.length_cons, List.range'_succ]
    simp only [wpOps, ho]
    -- carried out
    have go : ∀ dec σ, DecOK ops σ dec → Sim π w0 own w a σ β ok → Region.wanted o (yielded ops a.tmps) = true → (regExec P T σ o fun σ' => regGo P T ops rest (i + 1) (keepDec ops o.dst dec) σ' C).sat K →
        (if Region.wanted o (yielded ops a.tmps) = true then o.wp P a w (wpOps P ops Q (List.range' (i + 1) rest.length)) Q ∨ (o.asks P a w ∧ LetsOut Q) else wpOps P ops Q (List.range' (i + 1) rest.length) (a.put o.dst Go.undef) w) := by
      intro dec σ hdec S hw hs
      rw [if_pos hw]
      refine .inl ?_
      unfold regExec at hs
      split at hs
      · rename_i r hr
        refine opSound S.inv hT (fun x _ tv htv => S.eval x tv htv) hr hs.1 fun v w' β' ok' D => ?_
        exact regGo_sound hT rest (i + 1) _ _ C K _ w' β' ok' hrest (hdec.after o r) (S.after D) hs.2 hQ
      · split at hs
        · rename_i e neg hn
          obtain ⟨b, hb, hrun⟩ := nilEq_sound S hn
          refine Runs.wp (R := fun v w' => v = .bool (b != neg) ∧ w' = w) ⟨_, _, .inl hrun, rfl, rfl⟩ ?_
          rintro _ w' ⟨rfl, rfl⟩
          have hsb : (regGo P T ops rest (i + 1) (keepDec ops o.dst dec) (σ.put o.dst (.lf (.bool (b != neg)))) C).sat K := by
            cases b with
            | true => exact hs.1 (hb rfl)
            | false => exact hs.2
          have hrep : RepV w' ok β (.bool (b != neg)) (.lf (.bool (b != neg))) := rfl
          exact regGo_sound hT rest (i + 1) _ _ C K _ _ β ok hrest (hdec.put o.dst _) (S.put o.dst hrep) hsb hQ
        · exact hs.elim
    -- passed over
    have skip : ∀ dec σ, DecOK ops σ dec → Sim π w0 own w a σ β ok → Region.wanted o (yielded ops a.tmps) = false → (regGo P T ops rest (i + 1) ((i, none) :: keepDec ops o.dst dec) (σ.put o.dst (.tup [])) C).sat K →
        (if Region.wanted o (yielded ops a.tmps) = true then o.wp P a w (wpOps P ops Q (List.range' (i + 1) rest.length)) Q ∨ (o.asks P a w ∧ LetsOut Q) else wpOps P ops Q (List.range' (i + 1) rest.length) (a.put o.dst Go.undef) w) := by
      intro dec σ hdec S hw hs
      rw [if_neg (by rw [hw]; simp)]
      have hund : RepV w ok β Go.undef (.tup []) := ⟨[], rfl, trivial⟩
      refine regGo_sound hT rest (i + 1) _ _ C K _ w β ok hrest ?_ (S.put o.dst hund) hs hQ
      intro j x hj
      unfold lookDec at hj
      by_cases hji : i = j
      · subst hji
        simp at hj
        subst hj
        intro d hd
        have : o.dst = some d := by unfold dstOf at hd; rw [ho] at hd; exact hd
        rw [this, St.tv_put, St.put_length]
        by_cases hlt : d < σ.tmps.length
        · exact .inl (by simp [hlt])
        · exact .inr (Nat.le_of_not_lt hlt)
      · rw [if_neg hji] at hj
        exact hdec.put o.dst (.tup []) j x hj
    unfold regGo at hs
    simp only at hs
    split at hs
    · rename_i hg
      exact go dec σ hdec S (by simp [Region.wanted, hg]) hs
    · rename_i j want hg
      have hwant : ∀ d, dstOf ops j = some d → Region.wanted o (yielded ops a.tmps) = ((match a.tmps.getD d Go.undef with | .bool b => some b | _ => none) == some want) := fun d hd => by
        simp only [Region.wanted, hg, yielded_of hd a]
      split at hs
      · rename_i b hdj
        obtain ⟨d, hd, htv⟩ := hdec j _ hdj
        have hv : a.tmps.getD d Go.undef = .bool b := by have := S.tmps d; rw [htv] at this; exact this
        have hw := hwant d hd
        rw [hv] at hw
        split at hs
        · rename_i hb
          subst hb
          exact go dec σ hdec S (by simpa using hw) hs
        · rename_i hb
          exact skip dec σ hdec S (by rw [hw]; simpa using hb) hs
      · rename_i hdj
        refine skip dec σ hdec S ?_ hs
        cases hd : dstOf ops j with
        | none =>
          unfold dstOf at hd
          simp [Region.wanted, hg, yielded, hd]
        | some d =>
          rw [hwant d hd]
          rcases hdec j _ hdj d hd with htv | hlen
          · have hv := S.tmps d
            rw [htv] at hv
            obtain ⟨vs, hv, hvs⟩ := hv
            rw [hv]
            rfl
          · rw [Array.getD_eq_getD_getElem?, Array.getElem?_eq_none (by rw [S.size]; exact hlen)]
            rfl
      · split at hs
        · exact hs.elim
        · rename_i d hd
          split at hs
          · rename_i c htv
            have hv : a.tmps.getD d Go.undef = .bool c := by have := S.tmps d; rw [htv] at this; exact this
            have hw := hwant d hd
            rw [hv] at hw
            have hlt : d < σ.tmps.length := by
              apply Decidable.byContradiction
              intro h
              unfold St.tv at htv
              rw [List.getD, List.getElem?_eq_none (Nat.le_of_not_lt h)] at htv
              cases htv
            -- the guard, decided
            have dec1 : ∀ b, c = b → DecOK ops (σ.put (some d) (.lf (.bool b))) ((j, some b) :: dec) ∧ Sim π w0 own w a (σ.put (some d) (.lf (.bool b))) β ok := by
              rintro b rfl
              refine ⟨fun j' x hj => ?_, S.name d hv⟩
              have hsame : ∀ d', (σ.put (some d) (.lf (.bool c))).tv d' = σ.tv d' := fun d' => by
                rw [St.tv_put]
                by_cases hdd : d = d' ∧ d' < σ.tmps.length
                · rw [if_pos hdd, ← htv, hdd.1]
                · rw [if_neg hdd]
              unfold lookDec at hj
              by_cases hjj : j = j'
              · subst hjj
                simp at hj
                subst hj
                exact ⟨d, hd, by rw [St.tv_put, if_pos ⟨rfl, hlt⟩]⟩
              · rw [if_neg hjj] at hj
                have h1 := hdec j' x hj
                cases x with
                | some b =>
                  obtain ⟨d', hd', ht⟩ := h1
                  exact ⟨d', hd', (hsame d').trans ht⟩
                | none =>
                  intro d' hd'
                  rw [hsame, St.put_length]
                  exact h1 d' hd'
            obtain ⟨ht, hf⟩ := hs
            cases hc : c with
            | true =>
              have h1 := ht hc
              obtain ⟨hd1, hS1⟩ := dec1 true hc
              rw [hc] at hw
              split at h1
              · rename_i hwt
                exact go _ _ hd1 hS1 (by rw [hw, hwt]; rfl) h1
              · rename_i hwt
                exact skip _ _ hd1 hS1 (by rw [hw]; simpa using hwt) h1
            | false =>
              have h1 := hf hc
              obtain ⟨hd1, hS1⟩ := dec1 false hc
              rw [hc] at hw
              split at h1
              · rename_i hwt
                exact skip _ _ hd1 hS1 (by rw [hw, hwt]; rfl) h1
              · rename_i hwt
                exact go _ _ hd1 hS1 (by rw [hw]; simpa using hwt) h1
          · exact hs.elim
end

end Go.Proofs.Ytlfdidaeachpoaa

/- The engine, part X: regions whose order is drawn. -/
namespace Go.Proofs.Ytlfdidaeachpoaa
open Go Go.RowKit

/-! ### Orders, with no program in sight -/
section
variable {Loc Val : Type} {n : Nat} {W R : Nat → Loc → Prop} {m : Nat → Nat → Prop} {s : Nat → Loc → Val}

structure Comb (n : Nat) (W R : Nat → Loc → Prop) (m : Nat → Nat → Prop) (s : Nat → Loc → Val) : Prop where
  frame : ∀ i, i < n → ∀ l, ¬ W i l → s (i + 1) l = s i l
  disj : ∀ i j, i < j → j < n → ¬ m j i → ∀ l, (W i l → ¬ W j l ∧ ¬ R j l) ∧ (R i l → ¬ W j l)

/-- What there is when the operations of 'S' are done. -/
def Cur (n : Nat) (W : Nat → Loc → Prop) (s : Nat → Loc → Val) (S : Nat → Prop) (c : Loc → Val) : Prop :=
  ∀ l k, k ≤ n → (∀ i, i < n → W i l → (S i ↔ i < k)) → c l = s k l

theorem Comb.still (H : Comb n W R m s) {l : Loc} : ∀ (d j : Nat), j + d ≤ n → (∀ i, j ≤ i → i < j + d → ¬ W i l) → s (j + d) l = s j l
  | 0, _, _, _ => rfl
  | d + 1, j, hn, hw => by
    rw [← Nat.add_assoc, H.frame (j + d) (by omega) l (hw (j + d) (by omega) (by omega))]
    exact H.still d j (by omega) fun i h1 h2 => hw i h1 (by omega)

theorem Comb.start (H : Comb n W R m s) : Cur n W s (fun _ => False) (s 0) := fun l k hk hw => by
  have := H.still (l := l) k 0 (by omega) fun i _ h2 h3 => ((hw i (by omega) h3).2 (by omega)).elim
  rw [Nat.zero_add] at this
  exact this.symm

theorem Comb.read (H : Comb n W R m s) {S : Nat → Prop} {c : Loc → Val} (hc : Cur n W s S c) {j : Nat} (hj : j < n) (hjS : ¬ S j) (hm : ∀ i, m j i → S i) (hcl : ∀ i, S i → m i j → S j) {l : Loc} (hl : R j l ∨ W j l) : c l = s j l := by
  refine hc l j (Nat.le_of_lt hj) fun i hi hw => ?_
  rcases Nat.lt_trichotomy i j with h | h | h
  · by_cases hmi : m j i
    · exact ⟨fun _ => h, fun _ => hm i hmi⟩
    · have := (H.disj i j h hj hmi l).1 hw
      exact (hl.elim this.2 this.1).elim
  · subst h
    exact ⟨fun h => (hjS h).elim, fun h => absurd h (Nat.lt_irrefl _)⟩
  · by_cases hmi : m i j
    · exact ⟨fun h' => (hjS (hcl i h' hmi)).elim, fun h' => absurd h' (by omega)⟩
    · have := H.disj j i h hi hmi l
      rcases hl with hl | hl
      · exact (this.2 hl hw).elim
      · exact ((this.1 hl).1 hw).elim

theorem Comb.step (H : Comb n W R m s) {S : Nat → Prop} {c c' : Loc → Val} (hc : Cur n W s S c) {j : Nat} (hjS : ¬ S j) (hcl : ∀ i, S i → m i j → S j)
    (h1 : ∀ l, ¬ W j l → c' l = c l) (h2 : ∀ l, W j l → c' l = s (j + 1) l) {S' : Nat → Prop} (hS : ∀ i, S' i ↔ S i ∨ i = j) (hj : j < n) : Cur n W s S' c' := by
  intro l k hk hw
  by_cases hwj : W j l
  · rw [h2 l hwj]
    have hjk : j < k := (hw j hj hwj).1 ((hS j).2 (.inr rfl))
    have := H.still (l := l) (k - (j + 1)) (j + 1) (by omega) fun i h3 h4 h5 => by
      rcases (hS i).1 ((hw i (by omega) h5).2 (by omega)) with h6 | h6
      · by_cases hmi : m i j
        · exact hjS (hcl i h6 hmi)
        · exact ((H.disj j i (by omega) (by omega) hmi l).1 hwj).1 h5
      · omega
    rw [show j + 1 + (k - (j + 1)) = k by omega] at this
    exact this.symm
  · rw [h1 l hwj]
    refine hc l k hk fun i hi hwi => ?_
    rw [← hw i hi hwi, hS]
    constructor
    · exact .inl
    · rintro (h | rfl)
      · exact h
      · exact (hwj hwi).elim
end

/-! ### The trace in the order of the text -/
structure Stp where
  run : Option OpRes
  ft : Foot

def Stp.next (σ : St) (o : Oper) (p : Stp) : St := match p.run with
  | some r => σ.after o r
  | none => σ.put o.dst (.tup [])

def gTrue (ops : Array Oper) (σ : St) (o : Oper) : Prop := match o.guard with
  | none => True
  | some (j, want) => ∃ d, dstOf ops j = some d ∧ σ.tv d = .lf (.bool want)

def gFalse (ops : Array Oper) (σ : St) (o : Oper) : Prop := match o.guard with
  | none => False
  | some (j, want) => ∀ d, dstOf ops j = some d → σ.tv d = .lf (.bool (!want)) ∨ σ.tv d = .tup [] ∨ σ.tmps.length ≤ d

def StepOK (P : Program) (T : CallT) (ops : Array Oper) (σ : St) (o : Oper) (p : Stp) : Prop := match p.run with
  | some r => gTrue ops σ o ∧ evalOp P T (restr p.ft.rd (hget σ.heap)) σ.op o = some r ∧ r.vc = true ∧ p.ft.wr = wrOf o.dst r.upd ∧ newOK p.ft.rd (hget σ.heap) p.ft.wr = true
  | none => gFalse ops σ o ∧ p.ft = ⟨[], []⟩

section
variable {P : Program} {T : CallT} {ops : Array Oper} {ms : List Nat}

theorem drTry {σ : St} {o : Oper} {C : St → Foot → Tree} {K : Ev → Prop} {rd : List Nat} {r : OpRes} (hg : gTrue ops σ o) (hr : evalOp P T (restr rd (hget σ.heap)) σ.op o = some r)
    (h : (if newOK rd (hget σ.heap) (wrOf o.dst r.upd) then Tree.req r.vc (C (σ.after o r) ⟨rd, wrOf o.dst r.upd⟩) else .fail).sat K) :
    ∃ r f, StepOK P T ops σ o ⟨some r, f⟩ ∧ (C (σ.after o r) f).sat K := by
  split at h
  · rename_i hn
    exact ⟨r, _, ⟨hg, hr, h.1, rfl, hn⟩, h.2⟩
  · exact h.elim

theorem drExec_sat {σ : St} {o : Oper} {bad : List Nat} {C : St → Foot → Tree} {K : Ev → Prop} (hg : gTrue ops σ o) (h : (drExec P T σ o bad C).sat K) :
    ∃ r f, StepOK P T ops σ o ⟨some r, f⟩ ∧ (C (σ.after o r) f).sat K := by
  unfold drExec at h
  split at h
  · rename_i r hr
    exact drTry hg hr h
  · simp only at h
    split at h
    · rename_i r hr
      exact drTry hg hr h
    · split at h
      · rename_i r hr
        exact drTry hg hr h
      · exact h.elim

theorem St.put_self {σ : St} {d : Nat} {v : TV} (h : σ.tv d = v) (hv : v ≠ .lf .undef) : σ.put (some d) v = σ := by
  have : σ.tmps.set d v = σ.tmps := by
    apply List.ext_getElem?
    intro i
    rw [List.getElem?_set]
    by_cases hi : d = i
    · subst hi
      unfold St.tv at h
      by_cases hlt : d < σ.tmps.length
      · rw [if_pos rfl, if_pos hlt]
        rw [List.getD, List.getElem?_eq_getElem hlt] at h
        rw [List.getElem?_eq_getElem hlt]
        exact congrArg some h.symm
      · rw [List.getD, List.getElem?_eq_none (Nat.le_of_not_lt hlt)] at h
        exact (hv h.symm).elim
    · rw [if_neg hi]
  unfold St.put
  simp only [this]

/-- A way through the region, as a list of steps. -/
def Trace (P : Program) (T : CallT) (ops : Array Oper) (σ : St) (rest : List Oper) (s : Nat → St) (ps : List Stp) : Prop :=
  s 0 = σ ∧ ps.length = rest.length ∧ ∀ k o p, rest[k]? = some o → ps[k]? = some p → StepOK P T ops (s k) o p ∧ s (k + 1) = p.next (s k) o

theorem Trace.cons {σ : St} {o : Oper} {rest : List Oper} {p : Stp} {s : Nat → St} {ps : List Stp} (h1 : StepOK P T ops σ o p) (h : Trace P T ops (p.next σ o) rest s ps) :
    Trace P T ops σ (o :: rest) (fun k => match k with | 0 => σ | k + 1 => s k) (p :: ps) := by
  obtain ⟨h2, h3, h4⟩ := h
  refine ⟨rfl, by simp [h3], fun k o' p' ho hp => ?_⟩
  cases k with
  | zero =>
    simp only [List.getElem?_cons_zero, Option.some.injEq] at ho hp
    subst ho
    subst hp
    exact ⟨h1, h2⟩
  | succ k =>
    simp only [List.getElem?_cons_succ] at ho hp
    exact h4 k o' p' ho hp

theorem drGo_trace : ∀ (rest : List Oper) (i : Nat) (dec : List (Nat × Option Bool)) (σ : St) (fl : List Foot) (C : St → List Foot → Tree) (K : Ev → Prop),
    (∀ k, rest[k]? = ops[i + k]?) → DecOK ops σ dec → (drGo P T ops ms rest i dec σ fl C).sat K →
    ∃ s ps, Trace P T ops σ rest s ps ∧ (C (s rest.length) ((ps.map (·.ft)).reverse ++ fl)).sat K
  | [], _, _, σ, fl, C, K, _, _, hs => ⟨fun _ => σ, [], ⟨rfl, rfl, fun k o p h => by simp at h⟩, hs⟩
  | o :: rest, i, dec, σ, fl, C, K, hops, hdec, hs => by
    have ho : ops[i]? = some o := by simpa using (hops 0).symm
    have hrest : ∀ k, rest[k]? = ops[i + 1 + k]? := fun k => by
      have := hops (k + 1)
      rw [show i + 1 + k = i + (k + 1) by omega]
      simpa using this
    have wrap : ∀ (p : Stp), StepOK P T ops σ o p → (∃ s ps, Trace P T ops (p.next σ o) rest s ps ∧ (C (s rest.length) ((ps.map (·.ft)).reverse ++ (p.ft :: fl))).sat K) →
        ∃ s ps, Trace P T ops σ (o :: rest) s ps ∧ (C (s (o :: rest).length) ((ps.map (·.ft)).reverse ++ fl)).sat K := by
      rintro p hp ⟨s, ps, h1, h2⟩
      refine ⟨_, _, Trace.cons hp h1, ?_⟩
      simpa using h2
    have go : ∀ dec, DecOK ops σ dec → gTrue ops σ o → (drExec P T σ o (badOf (ms.getD i 0) fl) fun σ' q => drGo P T ops ms rest (i + 1) (keepDec ops o.dst dec) σ' (q :: fl) C).sat K →
        ∃ s ps, Trace P T ops σ (o :: rest) s ps ∧ (C (s (o :: rest).length) ((ps.map (·.ft)).reverse ++ fl)).sat K := by
      intro dec hdec hg hs
      obtain ⟨r, f, h1, h2⟩ := drExec_sat hg hs
      exact wrap ⟨some r, f⟩ h1 (drGo_trace rest (i + 1) _ _ _ C K hrest (hdec.after o r) h2)
    have skip : ∀ dec, DecOK ops σ dec → gFalse ops σ o → (drGo P T ops ms rest (i + 1) ((i, none) :: keepDec ops o.dst dec) (σ.put o.dst (.tup [])) (⟨[], []⟩ :: fl) C).sat K →
        ∃ s ps, Trace P T ops σ (o :: rest) s ps ∧ (C (s (o :: rest).length) ((ps.map (·.ft)).reverse ++ fl)).sat K := by
      intro dec hdec hg hs
      refine wrap ⟨none, ⟨[], []⟩⟩ ⟨hg, rfl⟩ (drGo_trace rest (i + 1) _ _ _ C K hrest ?_ hs)
      intro j x hj
      unfold lookDec at hj
      by_cases hji : i = j
      · subst hji
        simp at hj
        subst hj
        intro d hd
        have : o.dst = some d := by unfold dstOf at hd; rw [ho] at hd; exact hd
        show (σ.put o.dst (.tup [])).tv d = .tup [] ∨ (σ.put o.dst (.tup [])).tmps.length ≤ d
        rw [this, St.tv_put, St.put_length]
        by_cases hlt : d < σ.tmps.length
        · exact .inl (by simp [hlt])
        · exact .inr (Nat.le_of_not_lt hlt)
      · rw [if_neg hji] at hj
        exact hdec.put o.dst (.tup []) j x hj
    unfold drGo at hs
    simp only at hs
    split at hs
    · rename_i hg
      exact go dec hdec (by simp [gTrue, hg]) hs
    · rename_i j want hg
      split at hs
      · rename_i b hdj
        obtain ⟨d, hd, htv⟩ := hdec j _ hdj
        split at hs
        · rename_i hb
          subst hb
          exact go dec hdec (by simp only [gTrue, hg]; exact ⟨d, hd, htv⟩) hs
        · rename_i hb
          refine skip dec hdec ?_ hs
          simp only [gFalse, hg]
          intro d' hd'
          rw [hd] at hd'
          cases hd'
          refine .inl (htv.trans ?_)
          cases b <;> cases want <;> simp_all
      · rename_i hdj
        refine skip dec hdec ?_ hs
        simp only [gFalse, hg]
        intro d hd
        exact .inr (hdec j _ hdj d hd)
      · split at hs
        · exact hs.elim
        · rename_i d hd
          split at hs
          · rename_i c htv
            have hself : ∀ b, c = b → σ.put (some d) (.lf (.bool b)) = σ := fun b hb => St.put_self (by rw [htv, hb]) (by intro h; cases h)
            have dec1 : ∀ b, c = b → DecOK ops σ ((j, some b) :: dec) := by
              rintro b rfl j' x hj
              unfold lookDec at hj
              by_cases hjj : j = j'
              · subst hjj
                simp at hj
                subst hj
                exact ⟨d, hd, htv⟩
              · rw [if_neg hjj] at hj
                exact hdec j' x hj
            obtain ⟨ht, hf⟩ := hs
            cases hc : c with
            | true =>
              have h1 := ht hc
              rw [hself true hc] at h1
              split at h1
              · rename_i hwt
                exact go _ (dec1 true hc) (by simp only [gTrue, hg]; exact ⟨d, hd, by rw [htv, hc, hwt]⟩) h1
              · rename_i hwt
                refine skip _ (dec1 true hc) ?_ h1
                simp only [gFalse, hg]
                intro d' hd'
                rw [hd] at hd'
                cases hd'
                exact .inl (by rw [htv, hc]; cases want <;> simp_all)
            | false =>
              have h1 := hf hc
              rw [hself false hc] at h1
              split at h1
              · rename_i hwt
                refine skip _ (dec1 false hc) ?_ h1
                simp only [gFalse, hg]
                intro d' hd'
                rw [hd] at hd'
                cases hd'
                exact .inl (by rw [htv, hc, hwt]; rfl)
              · rename_i hwt
                exact go _ (dec1 false hc) (by simp only [gTrue, hg]; exact ⟨d, hd, by rw [htv, hc]; cases want <;> simp_all⟩) h1
          · exact hs.elim

/-! ### What the check of the order tells -/
theorem ordRow_spec {m : Nat} {y : Oper} {fy : Foot} : ∀ {xs : List Oper} {fs : List Foot} {i0 : Nat}, ordRow ops m y fy xs fs i0 = true → ∀ i x fx, xs[i]? = some x → fs[i]? = some fx → m.testBit (i0 + i) = true ∨ clash ops x y fx fy = false
  | [], _, _, _, i, x, fx, h1, _ => by simp at h1
  | _ :: _, [], _, _, i, x, fx, _, h2 => by simp at h2
  | x0 :: xs, f0 :: fs, i0, h, i, x, fx, h1, h2 => by
    simp only [ordRow, Bool.and_eq_true, Bool.or_eq_true, Bool.not_eq_true'] at h
    cases i with
    | zero =>
      simp only [List.getElem?_cons_zero, Option.some.injEq] at h1 h2
      subst h1
      subst h2
      exact h.1
    | succ i =>
      simp only [List.getElem?_cons_succ] at h1 h2
      have := ordRow_spec h.2 i x fx h1 h2
      rw [show i0 + 1 + i = i0 + (i + 1) by omega] at this
      exact this

theorem ordGo_spec {xs : List Oper} {fs : List Foot} : ∀ {ys : List Oper} {gs : List Foot} {ms : List Nat} {j0 : Nat}, ordGo ops xs fs ys gs ms j0 = true → ∀ k y fy m, ys[k]? = some y → gs[k]? = some fy → ms[k]? = some m →
    (∀ i x fx, i < j0 + k → xs[i]? = some x → fs[i]? = some fx → m.testBit i = true ∨ clash ops x y fx fy = false) ∧ ∀ e ∈ y.after, Region.binds .any e = true → e.on < j0 + k
  | [], _, _, _, _, k, y, fy, m, h1, _, _ => by simp at h1
  | _ :: _, [], _, _, _, k, y, fy, m, _, h2, _ => by simp at h2
  | _ :: _, _ :: _, [], _, _, k, y, fy, m, _, _, h3 => by simp at h3
  | y0 :: ys, g0 :: gs, m0 :: ms, j0, h, k, y, fy, m, h1, h2, h3 => by
    simp only [ordGo, Bool.and_eq_true] at h
    cases k with
    | zero =>
      simp only [List.getElem?_cons_zero, Option.some.injEq] at h1 h2 h3
      subst h1
      subst h2
      subst h3
      refine ⟨fun i x fx hi hx hf => ?_, fun e he hb => ?_⟩
      · have := ordRow_spec h.1.1 i x fx (by rw [List.getElem?_take, if_pos (by omega)]; exact hx) (by rw [List.getElem?_take, if_pos (by omega)]; exact hf)
        rwa [Nat.zero_add] at this
      · have := List.all_eq_true.1 h.1.2 e (Array.mem_toList_iff.2 he)
        simpa [hb] using this
    | succ k =>
      simp only [List.getElem?_cons_succ] at h1 h2 h3
      have := ordGo_spec h.2 k y fy m h1 h2 h3
      rw [show j0 + 1 + k = j0 + (k + 1) by omega] at this
      exact this

theorem precGo_spec : ∀ (l : List Oper) (acc : List Nat), (∀ k, k < acc.length → (precGo l acc)[k]? = acc[k]?) ∧
    ∀ k o, l[k]? = some o → ∃ acc', (∀ i, i < acc'.length → (precGo l acc)[i]? = acc'[i]?) ∧ (precGo l acc)[acc.length + k]? = some (precOf acc' o)
  | [], acc => ⟨fun _ _ => rfl, fun k o h => by simp at h⟩
  | o0 :: l, acc => by
    have ih := precGo_spec l (acc ++ [precOf acc o0])
    have h1 : ∀ k, k < acc.length → (precGo (o0 :: l) acc)[k]? = acc[k]? := fun k hk => by
      show (precGo l _)[k]? = _
      rw [ih.1 k (by simp; omega), List.getElem?_append_left hk]
    refine ⟨h1, fun k o h => ?_⟩
    cases k with
    | zero =>
      simp only [List.getElem?_cons_zero, Option.some.injEq] at h
      subst h
      refine ⟨acc, h1, ?_⟩
      show (precGo l _)[acc.length]? = _
      rw [ih.1 acc.length (by simp)]
      simp
    | succ k =>
      simp only [List.getElem?_cons_succ] at h
      obtain ⟨acc', h2, h3⟩ := ih.2 k o h
      refine ⟨acc', h2, ?_⟩
      rw [show acc.length + (k + 1) = (acc ++ [precOf acc o0]).length + k by simp; omega]
      exact h3

theorem foldBits {acc : List Nat} {b : Nat} : ∀ (l : List Edge) (m : Nat), (l.foldl (fun m e => if Region.binds .any e then m ||| 2 ^ e.on ||| acc.getD e.on 0 else m) m).testBit b = true →
    m.testBit b = true ∨ ∃ e ∈ l, Region.binds .any e = true ∧ (b = e.on ∨ (acc.getD e.on 0).testBit b = true)
  | [], _, h => .inl h
  | e :: l, m, h => by
    rw [List.foldl_cons] at h
    rcases foldBits l _ h with h1 | ⟨e', he', h1⟩
    · split at h1
      · rename_i hb
        simp only [Nat.testBit_or, Bool.or_eq_true, Nat.testBit_two_pow, decide_eq_true_eq] at h1
        rcases h1 with (h1 | h1) | h1
        · exact .inl h1
        · exact .inr ⟨e, by simp, hb, .inl h1.symm⟩
        · exact .inr ⟨e, by simp, hb, .inr h1⟩
      · exact .inl h1
    · exact .inr ⟨e', by simp [he'], h1⟩

/-- Operation 'j' waits for operation 'i'. -/
def Waits (ms : List Nat) (j i : Nat) : Prop := ∃ m, ms[j]? = some m ∧ m.testBit i = true

theorem waits_spec {j : Nat} {o : Oper} (ho : ops[j]? = some o) : (∃ m, (precGo ops.toList [])[j]? = some m) ∧
    ∀ b, Waits (precGo ops.toList []) j b → ∃ e ∈ o.after, Region.binds .any e = true ∧ (b = e.on ∨ Waits (precGo ops.toList []) e.on b) := by
  obtain ⟨acc', h1, h2⟩ := (precGo_spec ops.toList []).2 j o (by simpa using ho)
  simp only [List.length_nil, Nat.zero_add] at h2
  refine ⟨⟨_, h2⟩, ?_⟩
  rintro b ⟨m, hm, hb⟩
  rw [h2] at hm
  cases hm
  rcases foldBits _ _ hb with h3 | ⟨e, he, hbd, h3⟩
  · simp at h3
  · refine ⟨e, Array.mem_toList_iff.1 he, hbd, h3.imp id fun h4 => ?_⟩
    by_cases hlt : e.on < acc'.length
    · rw [List.getD, List.getElem?_eq_getElem hlt] at h4
      exact ⟨_, (h1 e.on hlt).trans (List.getElem?_eq_getElem hlt), h4⟩
    · rw [List.getD, List.getElem?_eq_none (Nat.le_of_not_lt hlt)] at h4
      simp at h4
end

/-! ### Any order -/
theorem updAll_not {k : Nat} : ∀ {r : List (Nat × Ent)} {l : Look}, k ∉ r.map (·.1) → updAll l r k = l k
  | [], _, _ => rfl
  | x :: r, l, h => by
    simp only [List.map_cons, List.mem_cons, not_or] at h
    show updAll (upd1 l x.1 x.2) r k = l k
    rw [updAll_not h.2]
    simp [upd1, h.1]

theorem updAll_mem {k : Nat} : ∀ {r : List (Nat × Ent)} {l l' : Look}, k ∈ r.map (·.1) → updAll l r k = updAll l' r k
  | [], _, _, h => by cases h
  | x :: r, l, l', h => by
    show updAll (upd1 l x.1 x.2) r k = updAll (upd1 l' x.1 x.2) r k
    by_cases hr : k ∈ r.map (·.1)
    · exact updAll_mem hr
    · rw [updAll_not hr, updAll_not hr]
      simp only [List.map_cons, List.mem_cons] at h
      rcases h with rfl | h
      · simp [upd1]
      · exact (hr h).elim

section
variable {P : Program} {T : CallT} {π : Pin} {w0 : World} {own : Nat → Prop} {w : World} {β : Nat → Option Value} {ok : Nat → Prop} {a : Act} {σ σ' : St}

theorem Sim.ext (S : Sim π w0 own w a σ β ok) (ht : ∀ t, σ.tv t = σ'.tv t) (hh : ∀ k, hget σ.heap k = hget σ'.heap k) (hl : σ.tmps.length = σ'.tmps.length) : Sim π w0 own w a σ' β ok :=
  ⟨by rw [← funext hh]; exact S.inv, fun t => by rw [← ht]; exact S.tmps t, by rw [← hl]; exact S.size, S.def0, S.pin, S.okB⟩

theorem Sim.world (S : Sim π w0 own w a σ β ok) {w' : World} (hh : w'.heap = w.heap) (h1 : w'.os = w.os) (h2 : w'.tape = w.tape) (h3 : w'.output = w.output) : Sim π w0 own w' a σ β ok :=
  ⟨S.inv.heap hh h1 h2 h3, fun t => (S.tmps t).mono (fun _ _ => by rw [hh]) (fun _ h => h) (fun _ _ h => h), S.size, S.def0, S.pin, S.okB⟩

def Wt (ops : Array Oper) (i t : Nat) : Prop := dstOf ops i = some t
def Rt (ops : Array Oper) (i t : Nat) : Prop := ∃ o, ops[i]? = some o ∧ t ∈ readsOf ops o
def Wh (ps : List Stp) (i k : Nat) : Prop := ∃ p, ps[i]? = some p ∧ k ∈ p.ft.wr
def Rh (ps : List Stp) (i k : Nat) : Prop := ∃ p, ps[i]? = some p ∧ k ∈ p.ft.rd

theorem Stp.next_length (σ : St) (o : Oper) (p : Stp) : (p.next σ o).tmps.length = σ.tmps.length := by
  unfold Stp.next
  cases p.run with
  | none => exact St.put_length ..
  | some r => exact St.put_length ..

theorem next_tv (σ : St) (o : Oper) (p : Stp) : ∃ v, (p.run = none → v = .tup []) ∧ (∀ r, p.run = some r → v = r.val) ∧ ∀ t, (p.next σ o).tv t = if o.dst = some t ∧ t < σ.tmps.length then v else σ.tv t := by
  unfold Stp.next
  cases hp : p.run with
  | none =>
    refine ⟨.tup [], fun _ => rfl, (fun r h => by cases h), fun t => ?_⟩
    cases hd : o.dst with
    | none => simp [St.put]
    | some d => simp only; rw [St.tv_put]; simp
  | some r =>
    refine ⟨r.val, (fun h => by cases h), (fun r' h => by cases h; rfl), fun t => ?_⟩
    show (σ.put o.dst r.val).tv t = _
    cases hd : o.dst with
    | none => simp [St.put]
    | some d => rw [St.tv_put]; simp

theorem after_heap (σ : St) (o : Oper) (r : OpRes) (k : Nat) : hget (σ.after o r).heap k = updAll (hget σ.heap) r.upd k := by
  show hget (hupd σ.heap r.upd) k = _
  rw [hget_hupd]

theorem wanted_of {ops : Array Oper} {o : Oper} (S : Sim π w0 own w a σ β ok) (h : gTrue ops σ o) : Region.wanted o (yielded ops a.tmps) = true := by
  unfold gTrue at h
  split at h
  · rename_i hg
    simp [Region.wanted, hg]
  · rename_i j want hg
    obtain ⟨d, hd, htv⟩ := h
    have hv : a.tmps.getD d Go.undef = .bool want := by have := S.tmps d; rw [htv] at this; exact this
    simp only [Region.wanted, hg, yielded_of hd a, hv]
    simp

theorem unwanted_of {ops : Array Oper} {o : Oper} (S : Sim π w0 own w a σ β ok) (h : gFalse ops σ o) : Region.wanted o (yielded ops a.tmps) = false := by
  unfold gFalse at h
  split at h
  · exact h.elim
  · rename_i j want hg
    cases hd : dstOf ops j with
    | none =>
      unfold dstOf at hd
      simp [Region.wanted, hg, yielded, hd]
    | some d =>
      simp only [Region.wanted, hg, yielded_of hd a]
      rcases h d hd with htv | htv | hlen
      · have hv : a.tmps.getD d Go.undef = .bool (!want) := by have := S.tmps d; rw [htv] at this; exact this
        rw [hv]
        cases want <;> rfl
      · have hv := S.tmps d
        rw [htv] at hv
        obtain ⟨vs, hv, hvs⟩ := hv
        rw [hv]
        rfl
      · rw [Array.getD_eq_getD_getElem?, Array.getElem?_eq_none (by rw [S.size]; exact hlen)]
        rfl

theorem gTrue_ext {ops : Array Oper} {o : Oper} (h : ∀ t ∈ readsOf ops o, σ.tv t = σ'.tv t) (hg : gTrue ops σ' o) : gTrue ops σ o := by
  unfold gTrue at hg ⊢
  split at hg
  · trivial
  · rename_i j want hgd
    obtain ⟨d, hd, htv⟩ := hg
    exact ⟨d, hd, (h d (by simp [readsOf, hgd, hd])).trans htv⟩

theorem gFalse_ext {ops : Array Oper} {o : Oper} (h : ∀ t ∈ readsOf ops o, σ.tv t = σ'.tv t) (hl : σ.tmps.length = σ'.tmps.length) (hg : gFalse ops σ' o) : gFalse ops σ o := by
  unfold gFalse at hg ⊢
  split at hg
  · exact hg
  · rename_i j want hgd
    intro d hd
    rw [h d (by simp [readsOf, hgd, hd]), hl]
    exact hg d hd

theorem getD_lt {listed : Array Bool} {i : Nat} (h : listed.getD i true = false) : i < listed.size ∧ listed.getD i false = false := by
  rcases Nat.lt_or_ge i listed.size with h' | h'
  · refine ⟨h', ?_⟩
    simp [h'] at h ⊢
    exact h
  · simp [Array.getElem?_eq_none h'] at h

structure Reg (P : Program) (T : CallT) (ops : Array Oper) (s : Nat → St) (ps : List Stp) : Prop where
  len : ps.length = ops.size
  step : ∀ k o p, ops[k]? = some o → ps[k]? = some p → StepOK P T ops (s k) o p ∧ s (k + 1) = p.next (s k) o
  tmp : Comb ops.size (Wt ops) (Rt ops) (Waits (precGo ops.toList [])) (fun k => (s k).tv)
  heap : Comb ops.size (Wh ps) (Rh ps) (Waits (precGo ops.toList [])) (fun k => hget (s k).heap)
  edge : ∀ k o, ops[k]? = some o → ∀ e ∈ o.after, Region.binds .any e = true → e.on < k
  size : ∀ k, k ≤ ops.size → (s k).tmps.length = (s 0).tmps.length

theorem reg_any (hT : SoundT P T) {ops : Array Oper} {s : Nat → St} {ps : List Stp} (H : Reg P T ops s ps) {Q : Exit → Act → World → Prop}
    (hQ : ∀ a w β ok, Sim π w0 own w a (s ops.size) β ok → Q .normal a w) : ∀ (fuel : Nat) (listed : Array Bool) (a : Act) (w : World) (c : St) (β : Nat → Option Value) (ok : Nat → Prop),
    listed.size = ops.size → listed.toList.count false ≤ fuel → Sim π w0 own w a c β ok → c.tmps.length = (s 0).tmps.length →
    Cur ops.size (Wt ops) (fun k => (s k).tv) (fun i => listed.getD i false = true) c.tv → Cur ops.size (Wh ps) (fun k => hget (s k).heap) (fun i => listed.getD i false = true) (hget c.heap) →
    (∀ i b, listed.getD i false = true → Waits (precGo ops.toList []) i b → listed.getD b false = true) → wpAny P .any ops Q fuel listed a w := by
  have fin : ∀ (listed : Array Bool) (a : Act) (w : World) (c : St) (β : Nat → Option Value) (ok : Nat → Prop), (∀ j, j < ops.size → listed.getD j false = true) → Sim π w0 own w a c β ok → c.tmps.length = (s 0).tmps.length →
      Cur ops.size (Wt ops) (fun k => (s k).tv) (fun i => listed.getD i false = true) c.tv → Cur ops.size (Wh ps) (fun k => hget (s k).heap) (fun i => listed.getD i false = true) (hget c.heap) → Q .normal a w :=
    fun listed a w c β ok hall S hl ht hh => hQ a w β ok (S.ext (fun t => ht t ops.size (Nat.le_refl _) fun i hi _ => ⟨fun _ => hi, fun _ => hall i hi⟩)
      (fun k => hh k ops.size (Nat.le_refl _) fun i hi _ => ⟨fun _ => hi, fun _ => hall i hi⟩) (hl.trans (H.size _ (Nat.le_refl _)).symm))
  have none0 : ∀ (listed : Array Bool), listed.size = ops.size → Region.ready .any ops listed = [] → ∀ j, j < ops.size → listed.getD j false = true := by
    intro listed hsz hr j
    induction j using Nat.strongRecOn with
    | ind j ih =>
      intro hj
      apply Decidable.byContradiction
      intro hn
      have hmem : j ∈ Region.ready .any ops listed := by
        refine mem_ready.2 ⟨?_, ops[j], by simp [hj], fun e he hb => ih e.on (H.edge j ops[j] (by simp [hj]) e he hb) (Nat.lt_trans (H.edge j ops[j] (by simp [hj]) e he hb) hj)⟩
        have hj' : j < listed.size := by omega
        simp [hj'] at hn ⊢
        exact hn
      rw [hr] at hmem
      cases hmem
  intro fuel
  induction fuel with
  | zero =>
    intro listed a w c β ok hsz hcnt S hl ht hh hcl
    have hno : false ∉ listed.toList := List.count_eq_zero.1 (Nat.le_zero.1 hcnt)
    have hall : ∀ j, j < ops.size → listed.getD j false = true := fun j hj => by
      have hj' : j < listed.size := by omega
      cases hv : listed[j] with
      | false => exact (hno (by rw [← hv]; simp)).elim
      | true => simp [hj', hv]
    refine ⟨?_, fin listed a w c β ok hall S hl ht hh⟩
    refine List.eq_nil_iff_forall_not_mem.2 fun j hj => ?_
    obtain ⟨h1, o, ho, _⟩ := mem_ready.1 hj
    have := (getD_lt h1).2
    rw [hall j (Array.getElem?_eq_some_iff.1 ho).1] at this
    cases this
  | succ fuel ih =>
    intro listed a w c β ok hsz hcnt S hl ht hh hcl
    refine ⟨fun hr => fin listed a w c β ok (none0 listed hsz hr) S hl ht hh, fun i hi => ?_⟩
    obtain ⟨hun, o, ho, hedge⟩ := mem_ready.1 hi
    obtain ⟨hlt, hun'⟩ := getD_lt hun
    have hin : i < ops.size := by omega
    have hnS : ¬ (listed.getD i false = true) := by rw [hun']; simp
    obtain ⟨p, hp⟩ : ∃ p, ps[i]? = some p := ⟨ps[i]'(by rw [H.len]; exact hin), List.getElem?_eq_getElem _⟩
    obtain ⟨hstep, hnext⟩ := H.step i o p ho hp
    have hw1 : ∀ b, Waits (precGo ops.toList []) i b → listed.getD b false = true := fun b hb => by
      obtain ⟨e, he, hbd, h1⟩ := (waits_spec ho).2 b hb
      rcases h1 with rfl | h1
      · exact hedge e he hbd
      · exact hcl e.on b (hedge e he hbd) h1
    have hw2 : ∀ k, listed.getD k false = true → Waits (precGo ops.toList []) k i → listed.getD i false = true := fun k hk hw => hcl k i hk hw
    have tread : ∀ t, Rt ops i t ∨ Wt ops i t → c.tv t = (s i).tv t := fun t h => H.tmp.read ht hin hnS hw1 hw2 h
    have hread : ∀ k, Rh ps i k ∨ Wh ps i k → hget c.heap k = hget (s i).heap k := fun k h => H.heap.read hh hin hnS hw1 hw2 h
    have hsz' : (listed.setIfInBounds i true).size = ops.size := by simpa using hsz
    have hcnt' : (listed.setIfInBounds i true).toList.count false ≤ fuel := by
      have hv : listed.toList[i]'(by simpa using hlt) = false := by
        simp [hlt] at hun
        simpa using hun
      have : 0 < listed.toList.count false := List.count_pos_iff.2 (by rw [← hv]; exact List.getElem_mem _)
      rw [Array.toList_setIfInBounds, List.count_set (h := by simpa using hlt), hv]
      rw [if_pos (by rfl), if_neg (by decide)]
      omega
    have hS' : ∀ k, (listed.setIfInBounds i true).getD k false = true ↔ listed.getD k false = true ∨ k = i := fun k => by
      by_cases hk : i = k
      · subst hk
        simp [hlt]
      · rw [getD_set_ne false hk]
        exact ⟨.inl, fun h => h.resolve_right fun e => hk e.symm⟩
    have hcl' : ∀ k b, (listed.setIfInBounds i true).getD k false = true → Waits (precGo ops.toList []) k b → (listed.setIfInBounds i true).getD b false = true := fun k b hk hw => by
      rw [hS'] at hk ⊢
      rcases hk with hk | rfl
      · exact .inl (hcl k b hk hw)
      · exact .inl (hw1 b hw)
    have hrt : ∀ t ∈ readsOf ops o, c.tv t = (s i).tv t := fun t h => tread t (.inl ⟨o, ho, h⟩)
    have hlen : c.tmps.length = (s i).tmps.length := hl.trans (H.size i (Nat.le_of_lt hin)).symm
    -- the temporaries, behind the operation
    have tcur : ∀ (c' : St), (∀ t, c'.tv t = (p.next c o).tv t) → Cur ops.size (Wt ops) (fun k => (s k).tv) (fun k => (listed.setIfInBounds i true).getD k false = true) c'.tv := by
      intro c' hc'
      obtain ⟨v, hv0, hv1, hv2⟩ := next_tv c o p
      obtain ⟨u, hu0, hu1, hu2⟩ := next_tv (s i) o p
      have huv : u = v := by
        cases hr : p.run with
        | none => rw [hv0 hr, hu0 hr]
        | some r => rw [hv1 r hr, hu1 r hr]
      have hdst : ∀ t, Wt ops i t ↔ o.dst = some t := fun t => by simp [Wt, dstOf, ho]
      refine H.tmp.step ht hnS hw2 (fun t hw => ?_) (fun t hw => ?_) hS' hin
      · rw [hc', hv2, if_neg fun h => hw ((hdst t).2 h.1)]
      · rw [hc', hnext, hv2, hu2, huv, hlen, tread t (.inr hw)]
    unfold wpOp
    simp only [ho]
    cases hrun : p.run with
    | none =>
      unfold StepOK at hstep
      rw [hrun] at hstep
      rw [if_neg (by rw [unwanted_of S (gFalse_ext hrt hlen hstep.1)]; simp)]
      refine ih _ _ _ (c.put o.dst (.tup [])) β ok hsz' hcnt' (S.put o.dst ⟨[], rfl, trivial⟩) (by rw [St.put_length]; exact hl) (tcur _ fun t => by simp [Stp.next, hrun]) ?_ hcl'
      rw [St.put_heap]
      refine H.heap.step hh hnS hw2 (fun _ _ => rfl) (fun k hw => ?_) hS' hin
      obtain ⟨p', hp', hk⟩ := hw
      rw [hp] at hp'
      cases hp'
      rw [hstep.2] at hk
      cases hk
    | some r =>
      have hstep0 := hstep
      unfold StepOK at hstep
      rw [hrun] at hstep
      obtain ⟨hg, hev, hvc, hwr, hnew⟩ := hstep
      rw [if_pos (wanted_of S (gTrue_ext hrt hg))]
      refine .inl ?_
      have hrdk : ∀ k, k ∈ p.ft.rd → hget c.heap k = hget (s i).heap k := fun k hk => hread k (.inl ⟨p, hp, hk⟩)
      have hwrk : ∀ k, k ∈ p.ft.wr → hget c.heap k = hget (s i).heap k := fun k hk => hread k (.inr ⟨p, hp, hk⟩)
      have hsub : Sub (restr p.ft.rd (hget (s i).heap)) (hget c.heap) := fun k e hk => by
        unfold restr at hk
        split at hk
        · rename_i hc
          rw [hrdk k (by simpa using hc)]
          exact hk
        · cases hk
      have hmono := evalOp_mono hsub hev fun k hk hnone => by
        have hk' : k ∈ p.ft.wr := by rw [hwr]; exact hk
        have h1 := List.all_eq_true.1 hnew k hk'
        simp only [Bool.or_eq_true, Option.isNone_iff_eq_none] at h1
        rcases h1 with h1 | h1
        · unfold restr at hnone
          rw [if_pos h1] at hnone
          rw [hwrk k hk', hnone]
        · rw [hwrk k hk', h1]
      refine opSound S.inv hT (fun x hx tv htv => ?_) hmono hvc fun v w' β' ok' D => ?_
      · refine S.eval x tv ?_
        rw [← htv]
        cases x with
        | tmp t =>
          show some (c.tv t) = some ((s i).tv t)
          rw [hrt t (by simp only [readsOf, List.mem_append, List.mem_filterMap]; exact .inl ⟨_, hx, rfl⟩)]
        | _ => rfl
      · refine ih _ _ _ (c.after o r) β' ok' hsz' hcnt' (S.after D) ((St.put_length ..).trans hl) (tcur _ fun t => by simp [Stp.next, hrun]) ?_ hcl'
        refine H.heap.step hh hnS hw2 (fun k hw => ?_) (fun k hw => ?_) hS' hin
        · rw [after_heap, updAll_not]
          intro hk
          exact hw ⟨p, hp, by rw [hwr]; exact wrOf_upd hk⟩
        · simp only [hnext, Stp.next, hrun]
          rw [after_heap, after_heap]
          by_cases hk : k ∈ r.upd.map (·.1)
          · exact updAll_mem hk
          · rw [updAll_not hk, updAll_not hk]
            exact hread k (.inr hw)

theorem reg_of {ops : Array Oper} {σ : St} {s : Nat → St} {ps : List Stp} (ht : Trace P T ops σ ops.toList s ps) (ho : ordOK ops (precGo ops.toList []) (ps.map (·.ft)) = true) : Reg P T ops s ps := by
  obtain ⟨h0, hlen, hstep⟩ := ht
  have hlen' : ps.length = ops.size := by simpa using hlen
  have step : ∀ k o p, ops[k]? = some o → ps[k]? = some p → StepOK P T ops (s k) o p ∧ s (k + 1) = p.next (s k) o := fun k o p h1 h2 => hstep k o p (by simpa using h1) h2
  have at_ : ∀ k, k < ops.size → ∃ o p m, ops[k]? = some o ∧ ps[k]? = some p ∧ (precGo ops.toList [])[k]? = some m := fun k hk => by
    obtain ⟨⟨m, hm⟩, _⟩ := waits_spec (ops := ops) (j := k) (o := ops[k]) (by simp [hk])
    exact ⟨ops[k], ps[k]'(by omega), m, by simp [hk], List.getElem?_eq_getElem _, hm⟩
  have spec : ∀ k y p m, ops[k]? = some y → ps[k]? = some p → (precGo ops.toList [])[k]? = some m → _ := fun k y p m h1 h2 h3 =>
    ordGo_spec ho k y p.ft m (by simpa using h1) (by simp [h2]) h3
  have noclash : ∀ i j, i < j → j < ops.size → ¬ Waits (precGo ops.toList []) j i → ∀ x y p q, ops[i]? = some x → ops[j]? = some y → ps[i]? = some p → ps[j]? = some q → clash ops x y p.ft q.ft = false := by
    intro i j hij hj hm x y p q hx hy hp hq
    obtain ⟨_, _, m, _, _, h3⟩ := at_ j hj
    rcases (spec j y q m hy hq h3).1 i x p.ft (by omega) (by simpa using hx) (by simp [hp]) with h | h
    · exact (hm ⟨m, h3, h⟩).elim
    · exact h
  have hits_false : ∀ {xs ys : List Nat}, hits xs ys = false → ∀ k, k ∈ xs → k ∉ ys := fun h k hx hy => by
    have := List.any_eq_false.1 h k hx
    simp [hy] at this
  refine ⟨hlen', step, ⟨fun i hi t hw => ?_, fun i j hij hj hm t => ?_⟩, ⟨fun i hi k hw => ?_, fun i j hij hj hm k => ?_⟩, fun k o hk e he hb => ?_, ?_⟩
  · obtain ⟨o, p, m, h1, h2, h3⟩ := at_ i hi
    obtain ⟨v, _, _, hv⟩ := next_tv (s i) o p
    rw [(step i o p h1 h2).2, hv, if_neg fun h => hw (by simp [Wt, dstOf, h1, h.1])]
  · obtain ⟨x, p, _, h1, h2, _⟩ := at_ i (by omega)
    obtain ⟨y, q, _, k1, k2, _⟩ := at_ j hj
    have hc := noclash i j hij hj hm x y p q h1 k1 h2 k2
    simp only [clash, Bool.or_eq_false_iff] at hc
    obtain ⟨⟨⟨⟨c1, c2⟩, _⟩, _⟩, _⟩ := hc
    refine ⟨fun hw => ?_, fun hr hw => ?_⟩
    · have hx : x.dst = some t := by simpa [Wt, dstOf, h1] using hw
      rw [hx] at c1
      simp only [Bool.or_eq_false_iff] at c1
      refine ⟨fun hw' => ?_, fun hr => ?_⟩
      · have hy : y.dst = some t := by simpa [Wt, dstOf, k1] using hw'
        simp [hy] at c1
      · obtain ⟨y', hy', hr⟩ := hr
        rw [k1] at hy'
        cases hy'
        simp [hr] at c1
    · have hy : y.dst = some t := by simpa [Wt, dstOf, k1] using hw
      obtain ⟨x', hx', hr⟩ := hr
      rw [h1] at hx'
      cases hx'
      rw [hy] at c2
      simp [hr] at c2
  · obtain ⟨o, p, m, h1, h2, h3⟩ := at_ i hi
    obtain ⟨h4, h5⟩ := step i o p h1 h2
    rw [h5]
    unfold Stp.next
    unfold StepOK at h4
    cases hr : p.run with
    | none => simp only; rw [St.put_heap]
    | some r =>
      rw [hr] at h4
      simp only
      rw [after_heap, updAll_not]
      intro hk
      exact hw ⟨p, h2, by rw [h4.2.2.2.1]; exact wrOf_upd hk⟩
  · obtain ⟨x, p, _, h1, h2, _⟩ := at_ i (by omega)
    obtain ⟨y, q, _, k1, k2, _⟩ := at_ j hj
    have hc := noclash i j hij hj hm x y p q h1 k1 h2 k2
    simp only [clash, Bool.or_eq_false_iff] at hc
    obtain ⟨⟨⟨_, c1⟩, c2⟩, c3⟩ := hc
    refine ⟨?_, ?_⟩
    · rintro ⟨p', hp', hk⟩
      rw [h2] at hp'
      cases hp'
      refine ⟨?_, ?_⟩
      · rintro ⟨q', hq', hk'⟩
        rw [k2] at hq'
        cases hq'
        exact hits_false c1 k hk hk'
      · rintro ⟨q', hq', hk'⟩
        rw [k2] at hq'
        cases hq'
        exact hits_false c2 k hk hk'
    · rintro ⟨p', hp', hk⟩ ⟨q', hq', hk'⟩
      rw [h2] at hp'
      cases hp'
      rw [k2] at hq'
      cases hq'
      exact hits_false c3 k hk' hk
  · obtain ⟨_, p, m, h1, h2, h3⟩ := at_ k (Array.getElem?_eq_some_iff.1 hk).1
    have := (spec k o p m hk h2 h3).2 e he hb
    omega
  · intro k
    induction k with
    | zero => intro _; rfl
    | succ k ih =>
      intro hk
      obtain ⟨o, p, m, h1, h2, h3⟩ := at_ k (by omega)
      rw [(step k o p h1 h2).2, Stp.next_length]
      exact ih (by omega)

theorem regDraw_sound (hm : P.follows .mixedOrders = true) (hT : SoundT P T) {ops : Array Oper} {id : Nat} {K : Ev → Prop} (S : Sim π w0 own w a σ β ok)
    (hs : (drTree P T ops σ).sat K) : (Code.region id ops true).wp P (OutOK π w0 own K) a w := by
  unfold drTree at hs
  obtain ⟨s, ps, htr, hK⟩ := drGo_trace ops.toList 0 [] σ [] _ K (fun k => by simp) (fun j x h => by cases h) hs
  rw [List.append_nil, List.reverse_reverse] at hK
  split at hK
  · rename_i hord
    have H := reg_of htr hord
    have h0 : s 0 = σ := htr.1
    refine wp_region_any hm (reg_any (π := π) (w0 := w0) (own := own) hT H (fun a' w' β' ok' S' => ⟨.norm (s ops.size), β', ok', ?_, rfl, S'⟩) ops.size _ a _ (s 0) β ok (by simp) ?_ ?_ rfl ?_ ?_ ?_)
    · simp [List.count_replicate]
    · rw [h0]
      exact S.world rfl rfl rfl rfl
    · have := H.tmp.start
      intro l k hk hw
      refine this l k hk fun i hi hwi => ?_
      rw [← hw i hi hwi]
      simp [hi]
    · have := H.heap.start
      intro l k hk hw
      refine this l k hk fun i hi hwi => ?_
      rw [← hw i hi hwi]
      simp [hi]
    · intro i b hi
      exfalso
      rcases Nat.lt_or_ge i ops.size with h' | h'
      · simp [h'] at hi
      · rw [Array.getD_eq_getD_getElem?, Array.getElem?_eq_none (by simpa using h')] at hi
        cases hi
    · have : ops.toList.length = ops.size := by simp
      rw [this] at hK
      exact hK
  · exact hK.elim
end

end Go.Proofs.Ytlfdidaeachpoaa

/- The engine, part M: code; a state told less of; loops; functions. -/
namespace Go.Proofs.Ytlfdidaeachpoaa
open Go Go.RowKit

section
variable {P : Program} {T : CallT} {π : Pin} {w0 : World} {own : Nat → Prop}

theorem regTree_sound (hm : P.follows .mixedOrders = true) (hT : SoundT P T) {ops : Array Oper} {draw : Bool} {id : Nat} {σ : St} {K : Ev → Prop} {a : Act} {w : World} {β : Nat → Option Value} {ok : Nat → Prop} (S : Sim π w0 own w a σ β ok)
    (hs : (regTree P T ops draw σ).sat K) : (Code.region id ops draw).wp P (OutOK π w0 own K) a w := by
  cases draw with
  | true => exact regDraw_sound hm hT S hs
  | false =>
    refine wp_region ?_
    rw [List.range_eq_range']
    have := regGo_sound (π := π) (w0 := w0) (own := own) (Q := OutOK π w0 own K) hT ops.toList 0 [] σ (fun σ' => .leaf (.norm σ')) K a w β ok
      (fun k => by simp) (fun j x h => by cases h) S hs fun σ' a' w' β' ok' S' h' => ⟨.norm σ', β', ok', h', rfl, S'⟩
    simpa using this

/-! ### Code -/
def regsOf : Code → List (Nat × Array Oper × Bool)
  | .region id ops draw => [(id, ops, draw)]
  | .seq x y => regsOf x ++ regsOf y
  | .cond _ x y => regsOf x ++ regsOf y
  | .block _ x => regsOf x
  | _ => []

def loopsOf : Nat → Code → List (Nat × Code)
  | b, .seq x y => loopsOf b x ++ loopsOf b y
  | b, .cond _ x y => loopsOf b x ++ loopsOf b y
  | _, .block id x => loopsOf id x
  | b, .loop c => [(b, c)]
  | _, _ => []

/-- What is told of a region beforehand is so. -/
def RegOK (P : Program) (L : Told) (x : Nat × Array Oper × Bool) : Prop :=
  ∀ (π : Pin) (w0 : World) (own : Nat → Prop) (σ : St) (t : Tree) (K : Ev → Prop) (a : Act) (w : World) (β : Nat → Option Value) (ok : Nat → Prop), L.reg x.1 σ = some t → t.sat K → Sim π w0 own w a σ β ok →
    (Code.region x.1 x.2.1 x.2.2).wp P (OutOK π w0 own K) a w

def LoopOK (P : Program) (L : Told) (x : Nat × Code) : Prop :=
  ∀ (π : Pin) (w0 : World) (own : Nat → Prop) (σ : St) (t : Tree) (K : Ev → Prop) (a : Act) (w : World) (β : Nat → Option Value) (ok : Nat → Prop), L.loop x.1 σ = some t → t.sat K → Sim π w0 own w a σ β ok →
    (Code.loop x.2).wp P (OutOK π w0 own K) a w

def All {α : Type} (p : α → Prop) : List α → Prop
  | [] => True
  | x :: l => p x ∧ All p l

theorem All.mem {α : Type} {p : α → Prop} : ∀ {l : List α}, All p l → ∀ x ∈ l, p x
  | _ :: _, ⟨h, _⟩, x, hx => by
    rcases List.mem_cons.1 hx with rfl | hx
    · exact h
    · exact All.mem (by assumption) x hx
  | [], _, _, hx => by cases hx

theorem evCode_sound (hm : P.follows .mixedOrders = true) (hT : SoundT P T) {L : Told} : ∀ (c : Code) (b : Nat) (σ : St) (K : Ev → Prop) (a : Act) (w : World) (β : Nat → Option Value) (ok : Nat → Prop),
    (∀ x ∈ regsOf c, RegOK P L x) → (∀ x ∈ loopsOf b c, LoopOK P L x) → Sim π w0 own w a σ β ok → (evCode P T L b c σ).sat K → c.wp P (OutOK π w0 own K) a w
  | .skip, _, σ, K, a, w, β, ok, _, _, S, hs => wp_skip ⟨.norm σ, β, ok, hs, rfl, S⟩
  | .region id ops draw, _, σ, K, a, w, β, ok, hr, _, S, hs => by
    simp only [evCode] at hs
    split at hs
    · rename_i t ht
      exact hr (id, ops, draw) (by simp [regsOf]) π w0 own σ t K a w β ok ht hs S
    · exact regTree_sound hm hT S hs
  | .seq x y, b, σ, K, a, w, β, ok, hr, hl, S, hs => by
    refine wp_seq (wp_mono (evCode_sound hm hT x b σ _ a w β ok (fun z hz => hr z (by simp [regsOf, hz])) (fun z hz => hl z (by simp [loopsOf, hz])) S (Tree.sat_bind hs)) ?_)
    rintro e a' w' ⟨ev, β', ok', hK, hev⟩
    cases ev with
    | norm σ' =>
      obtain ⟨rfl, S'⟩ := hev
      exact evCode_sound hm hT y b σ' K a' w' β' ok' (fun z hz => hr z (by simp [regsOf, hz])) (fun z hz => hl z (by simp [loopsOf, hz])) S' hK
    | ret σ' => obtain ⟨rfl, S'⟩ := hev; exact ⟨.ret σ', β', ok', hK, rfl, S'⟩
    | exit id σ' => obtain ⟨rfl, S'⟩ := hev; exact ⟨.exit id σ', β', ok', hK, rfl, S'⟩
  | .cond c x y, b, σ, K, a, w, β, ok, hr, hl, S, hs => by
    simp only [evCode] at hs
    split at hs
    · rename_i q hq
      have hv : a.eval c = .bool q := S.eval c _ hq
      refine wp_cond hv ?_
      cases q with
      | true => exact evCode_sound hm hT x b σ K a w β ok (fun z hz => hr z (by simp [regsOf, hz])) (fun z hz => hl z (by simp [loopsOf, hz])) S (hs.1 rfl)
      | false => exact evCode_sound hm hT y b σ K a w β ok (fun z hz => hr z (by simp [regsOf, hz])) (fun z hz => hl z (by simp [loopsOf, hz])) S (hs.2 rfl)
    · exact hs.elim
  | .block id body, b, σ, K, a, w, β, ok, hr, hl, S, hs => by
    refine wp_block (wp_mono (evCode_sound hm hT body id σ _ a w β ok (fun z hz => hr z (by simpa [regsOf] using hz)) (fun z hz => hl z (by simpa [loopsOf] using hz)) S (Tree.sat_bind hs)) ?_)
    rintro e a' w' ⟨ev, β', ok', hK, hev⟩
    cases ev with
    | norm σ' => obtain ⟨rfl, S'⟩ := hev; exact ⟨.norm σ', β', ok', hK, rfl, S'⟩
    | ret σ' => obtain ⟨rfl, S'⟩ := hev; exact ⟨.ret σ', β', ok', hK, rfl, S'⟩
    | exit id' σ' =>
      obtain ⟨rfl, S'⟩ := hev
      simp only at hK
      show (if id' = id then OutOK π w0 own K .normal a' w' else OutOK π w0 own K (.exit id') a' w')
      split at hK
      · rename_i h; rw [if_pos h]; exact ⟨.norm σ', β', ok', hK, rfl, S'⟩
      · rename_i h; rw [if_neg h]; exact ⟨.exit id' σ', β', ok', hK, rfl, S'⟩
  | .loop c, b, σ, K, a, w, β, ok, _, hl, S, hs => by
    simp only [evCode] at hs
    split at hs
    · rename_i t ht
      exact hl (b, c) (by simp [loopsOf]) π w0 own σ t K a w β ok ht hs S
    · exact hs.elim
  | .exit id, _, σ, K, a, w, β, ok, _, _, S, hs => wp_exit ⟨.exit id σ, β, ok, hs, rfl, S⟩
  | .ret, _, σ, K, a, w, β, ok, _, _, S, hs => wp_ret ⟨.ret σ, β, ok, hs, rfl, S⟩
  | .rangeFunc .., _, _, _, _, _, _, _, _, _, _, hs => hs.elim
  | .scope _, _, _, _, _, _, _, _, _, _, _, hs => hs.elim
  | .label _, _, _, _, _, _, _, _, _, _, _, hs => hs.elim
  | .goto _, _, _, _, _, _, _, _, _, _, _, hs => hs.elim
  | .refuse _, _, _, _, _, _, _, _, _, _, _, hs => hs.elim
end

/-! ### A state told less of -/
/-- Whatever the one state tells, the other does. -/
def Weak (σ σ' : St) : Prop := ∀ (π : Pin) (w0 : World) (own : Nat → Prop) (w : World) (a : Act) (β : Nat → Option Value) (ok : Nat → Prop), Sim π w0 own w a σ β ok → ∃ β' ok', Sim π w0 own w a σ' β' ok'

theorem Weak.refl (σ : St) : Weak σ σ := fun _ _ _ _ _ β ok S => ⟨β, ok, S⟩
theorem Weak.trans {σ σ' σ'' : St} (h : Weak σ σ') (h' : Weak σ' σ'') : Weak σ σ'' := fun π w0 own w a β ok S =>
  let ⟨β', ok', S'⟩ := h π w0 own w a β ok S
  h' π w0 own w a β' ok' S'

/-! nil handed over for a slice is data without elements -/
def denLeaf : Ty → Leaf → Leaf
  | .sl t, .nil => .dat t []
  | _, l => l

def denLeaves : List Ty → List Leaf → List Leaf
  | t :: ts, l :: ls => denLeaf t l :: denLeaves ts ls
  | _, ls => ls

def denTV : List Ty → TV → TV
  | [t], .lf l => .lf (denLeaf t l)
  | ts, .agg cs => .agg (denLeaves ts cs)
  | _, v => v

def denTVs : List (List Ty) → List TV → List TV
  | ts :: tss, v :: vs => denTV ts v :: denTVs tss vs
  | _, vs => vs

section
variable {w : World} {ok : Nat → Prop} {β : Nat → Option Value}

theorem denLeaf_rep {t : Ty} {l : Leaf} {v : Value} (h : RepL w ok β v l) : RepL w ok β v (denLeaf t l) := by
  unfold denLeaf
  split
  · rename_i t
    obtain rfl : v = .slice none 0 0 := h
    exact ⟨none, 0, rfl, Nat.le_refl _, Nat.zero_le _, fun _ => rfl, fun i hi => absurd hi (Nat.not_lt_zero i)⟩
  · exact h

theorem denLeaves_rep : ∀ {ts : List Ty} {ls : List Leaf} {vs : List Value}, RepLs w ok β vs ls → RepLs w ok β vs (denLeaves ts ls)
  | [], _, _, h => h
  | _ :: _, [], _, h => h
  | t :: ts, l :: ls, v :: vs, h => ⟨denLeaf_rep h.1, denLeaves_rep h.2⟩
  | _ :: _, _ :: _, [], h => h

theorem denTV_rep {ts : List Ty} {t : TV} {v : Value} (h : RepV w ok β v t) : RepV w ok β v (denTV ts t) := by
  unfold denTV
  split
  · exact denLeaf_rep h
  · obtain ⟨vs, h1, h2⟩ := h
    exact ⟨vs, h1, denLeaves_rep h2⟩
  · exact h

theorem denTVs_rep : ∀ {tss : List (List Ty)} {ts : List TV} {vs : List Value}, RepVs w ok β vs ts → RepVs w ok β vs (denTVs tss ts)
  | [], _, _, h => h
  | _ :: _, [], _, h => h
  | ts :: tss, t :: r, v :: vs, h => ⟨denTV_rep h.1, denTVs_rep h.2⟩
  | _ :: _, _ :: _, [], h => h
end


def addNew : List Nat → List Nat → List Nat
  | [], acc => acc
  | x :: l, acc => addNew l (if acc.contains x then acc else acc ++ [x])

inductive WOp where
  /-- these temporaries alone -/
  | keep (ts : List Nat)
  /-- these blocks alone -/
  | heap (ids : List Nat)
  /-- a nil slice is a row of this number -/
  | nilRow (t id : Nat) (e : TypeId) (ty : Ty)
  /-- a nil slice is data -/
  | nilDat (t : Nat) (ty : Ty)
  /-- the rows in this temporary are data from now on -/
  | toDat (t : Nat)
  /-- the rows in this block's cells are data from now on -/
  | cellDat (id : Nat)
  /-- the row in this temporary gets this number -/
  | ren (t id : Nat)
  /-- nil in a block's cell is a row of this number -/
  | cellRow (id off rid : Nat) (e : TypeId) (ty : Ty)
  /-- the row in a block's cell gets this number -/
  | cellRen (id off rid : Nat)
  /-- nil slices in a block's cells are data -/
  | cellDen (id : Nat) (tys : List Ty)
  /-- nil slices in this temporary are data -/
  | den (t : Nat) (tys : List Ty)
  /-- what nothing leads to is dropped; the rest in the order in which it is come to -/
  | gc

def keepT (ts : List Nat) : Nat → List TV → List TV
  | _, [] => []
  | i, v :: vs => (if ts.contains i then v else .lf .undef) :: keepT ts (i + 1) vs

def renHeap (g : Nat → Nat) : List (Nat × Ent) → List (Nat × Ent)
  | [] => []
  | x :: l => (g x.1, ⟨x.2.w, renEB g x.2.b⟩) :: renHeap g l

def swapTo (id id' : Nat) (j : Nat) : Nat := if j = id then id' else j

/-- What is come to: by-reference blocks first, then by the temporaries in their order. -/
def gcIds (σ : St) : List Nat := closeIds (hget σ.heap) 5 (addIds ((σ.heap.map (·.1)).filter (fun id => decide (parBase ≤ id)) ++ σ.tmps.flatMap tvIds) [])

def gcHeap (l : List (Nat × Ent)) : List Nat → List (Nat × Ent)
  | [] => []
  | id :: ids => match hget l id with
    | some e => (id, e) :: gcHeap l ids
    | none => gcHeap l ids

theorem hget_gc (l : List (Nat × Ent)) : ∀ ids id, hget (gcHeap l ids) id = if ids.contains id then hget l id else none
  | [], _ => rfl
  | i :: ids, id => by
    unfold gcHeap
    have ih := hget_gc l ids id
    split
    · rename_i e he
      simp only [hget]
      by_cases h : i = id
      · subst h
        simp [he]
      · rw [if_neg h, ih]
        have : (id == i) = false := by simpa using fun e => h e.symm
        rw [List.contains_cons, this, Bool.false_or]
    · rename_i hn
      rw [ih]
      by_cases h : i = id
      · subst h
        simp [hn]
      · have : (id == i) = false := by simpa using fun e => h e.symm
        rw [List.contains_cons, this, Bool.false_or]

def WOp.go (σ : St) : WOp → Option St
  | .keep ts => some { σ with tmps := keepT ts 0 σ.tmps }
  | .heap ids => if σ.tmps.all (fun v => (tvIds v).all ids.contains) && (σ.heap.filter fun x => ids.contains x.1).all (fun x => (ebIds x.2.b).all ids.contains) then
      some { σ with heap := σ.heap.filter fun x => ids.contains x.1 } else none
  | .nilRow t id e ty => match σ.tv t with
    | .lf .nil => match hget σ.heap id with
      | none => if id < parBase then some ⟨σ.tmps.set t (.lf (.ref id)), hset id ⟨true, .arr e ty []⟩ σ.heap⟩ else none
      | some _ => none
    | _ => some σ
  | .nilDat t ty => match σ.tv t with
    | .lf .nil => some (σ.put (some t) (.lf (.dat ty [])))
    | _ => some σ
  | .toDat t => match resolveT (hget σ.heap) (σ.tv t) with
    | some (v', ids) => some ⟨σ.tmps.set t v', hupd σ.heap (freezes (hget σ.heap) ids)⟩
    | none => some σ
  | .cellDat id => match hget σ.heap id with
    | some ⟨true, .cells ls⟩ => match resolveL (hget σ.heap) ls with
      | some (ls', ids) => if ids.contains id then none else some { σ with heap := hset id ⟨true, .cells ls'⟩ (hupd σ.heap (freezes (hget σ.heap) ids)) }
      | none => none
    | _ => some σ
  | .ren t id' => match σ.tv t with
    | .lf (.ref id) => match hget σ.heap id, hget σ.heap id' with
      | some _, none => if id' < parBase then some ⟨σ.tmps.map (renTV (swapTo id id')), renHeap (swapTo id id') σ.heap⟩ else none
      | _, _ => if id = id' then some σ else none
    | _ => some σ
  | .cellRow id off rid e ty => match hget σ.heap id with
    | some ⟨true, .cells ls⟩ => match ls[off]? with
      | some .nil => match hget σ.heap rid with
        | none => if rid < parBase ∧ rid ≠ id then some { σ with heap := hset id ⟨true, .cells (ls.set off (.ref rid))⟩ (hset rid ⟨true, .arr e ty []⟩ σ.heap) } else none
        | some _ => none
      | _ => some σ
    | _ => some σ
  | .cellRen id off rid => match hget σ.heap id with
    | some ⟨true, .cells ls⟩ => match ls[off]? with
      | some (.ref r) => match hget σ.heap r, hget σ.heap rid with
        | some _, none => if rid < parBase then some ⟨σ.tmps.map (renTV (swapTo r rid)), renHeap (swapTo r rid) σ.heap⟩ else none
        | _, _ => if r = rid then some σ else none
      | _ => some σ
    | _ => some σ
  | .cellDen id tys => match hget σ.heap id with
    | some ⟨true, .cells ls⟩ => some { σ with heap := hset id ⟨true, .cells (denLeaves tys ls)⟩ σ.heap }
    | _ => some σ
  | .den t tys => some (σ.put (some t) (denTV tys (σ.tv t)))
  | .gc =>
    let ids := gcIds σ
    if σ.tmps.all (fun v => (tvIds v).all ids.contains) && (σ.heap.filter fun x => ids.contains x.1).all (fun x => (ebIds x.2.b).all ids.contains) then
      some { σ with heap := gcHeap σ.heap ids } else none

def weaken : List WOp → St → Option St
  | [], σ => some σ
  | x :: l, σ => match x.go σ with
    | some σ' => weaken l σ'
    | none => none

theorem keepT_get (ts : List Nat) : ∀ (l : List TV) (i t : Nat), (keepT ts i l).getD t (.lf .undef) = if ts.contains (i + t) then l.getD t (.lf .undef) else .lf .undef
  | [], i, t => by simp [keepT]
  | v :: l, i, 0 => by simp [keepT]
  | v :: l, i, t + 1 => by
    have := keepT_get ts l (i + 1) t
    rw [show i + 1 + t = i + (t + 1) by omega] at this
    simpa [keepT] using this

theorem keepT_length (ts : List Nat) : ∀ (l : List TV) (i : Nat), (keepT ts i l).length = l.length
  | [], _ => rfl
  | _ :: l, i => by simp [keepT, keepT_length ts l]

theorem hget_filter (ids : List Nat) : ∀ (l : List (Nat × Ent)) (id : Nat), hget (l.filter fun x => ids.contains x.1) id = if ids.contains id then hget l id else none
  | [], id => by simp [hget]
  | x :: l, id => by
    simp only [List.filter_cons]
    by_cases hx : ids.contains x.1 = true
    · rw [if_pos hx]
      simp only [hget]
      by_cases h : x.1 = id
      · rw [if_pos h, if_pos h, if_pos (h ▸ hx)]
      · rw [if_neg h, if_neg h]; exact hget_filter ids l id
    · rw [if_neg hx, hget_filter ids l id]
      simp only [hget]
      by_cases h : x.1 = id
      · rw [if_pos h, if_neg (by rw [← h]; exact hx), if_neg (by rw [← h]; exact hx)]
      · rw [if_neg h]

section
variable {π : Pin} {w0 : World} {own : Nat → Prop} {w : World} {β β2 : Nat → Option Value} {ok : Nat → Prop} {a : Act} {σ : St}

theorem renLeaf_id (l : Leaf) : renLeaf (fun j => j) l = l := by cases l <;> simp [renLeaf]
theorem renLeaf_id' : renLeaf (fun j => j) = fun l => l := funext renLeaf_id

theorem RepLs.sub {vs : List Value} {ls : List Leaf} (hg : ∀ id ∈ ls.flatMap leafIds, ∀ u, β id = some u → β2 id = some u) (h : RepLs w ok β vs ls) : RepLs w ok β2 vs ls := by
  have := RepLs.ren (g := fun j => j) hg h
  rw [renLeaf_id'] at this
  simpa using this

theorem RepC.sub {v : Value} : ∀ {c : Bool × List Leaf}, (∀ id ∈ c.2.flatMap leafIds, ∀ u, β id = some u → β2 id = some u) → RepC w ok β v c → RepC w ok β2 v c
  | (true, _), hg, ⟨vs, e, h⟩ => ⟨vs, e, h.sub hg⟩
  | (false, _), hg, h => RepLs.sub (vs := [v]) hg h

theorem RepCs.sub : ∀ {vs : List Value} {cs : List (Bool × List Leaf)}, (∀ id ∈ (cs.flatMap (·.2)).flatMap leafIds, ∀ u, β id = some u → β2 id = some u) → RepCs w ok β vs cs → RepCs w ok β2 vs cs
  | [], [], _, _ => trivial
  | _ :: _, c :: _, hg, ⟨h1, h2⟩ => ⟨h1.sub fun id hid => hg id (by rw [List.flatMap_cons, List.flatMap_append]; exact List.mem_append_left _ hid), RepCs.sub (fun id hid => hg id (by rw [List.flatMap_cons, List.flatMap_append]; exact List.mem_append_right _ hid)) h2⟩
  | [], _ :: _, _, h => h.elim
  | _ :: _, [], _, h => h.elim

theorem RepV.sub {v : Value} {t : TV} (hg : ∀ id ∈ tvIds t, ∀ u, β id = some u → β2 id = some u) (h : RepV w ok β v t) : RepV w ok β2 v t := by
  cases t with
  | lf l => have := RepL.ren (g := fun j => j) hg h; rwa [renLeaf_id] at this
  | agg cs => obtain ⟨vs, e, h⟩ := h; exact ⟨vs, e, h.sub hg⟩
  | tup cs => obtain ⟨vs, e, h⟩ := h; exact ⟨vs, e, h.sub hg⟩
  | rptr cs => obtain ⟨b, o, us, e, hb, hm, h⟩ := h; exact ⟨b, o, us, e, hb, hm, h.sub hg⟩
  | eptr id i off sz => obtain ⟨b, n, cap, h1, h2, h3⟩ := h; exact ⟨b, n, cap, hg id (List.mem_singleton.2 rfl) _ h1, h2, h3⟩

theorem EntRep.sub {id : Nat} {b : EB} (hg : ∀ j ∈ ebIds b, ∀ u, β j = some u → β2 j = some u) (hid : ∀ u, β id = some u → β2 id = some u) (h : EntRep w ok β id b) : EntRep w ok β2 id b := by
  cases b with
  | dead => trivial
  | cells ls => obtain ⟨q, cs, e, h1, h2, h3⟩ := h; exact ⟨q, cs, e, hid _ h1, h2, h3.sub hg⟩
  | arr e t xs => obtain ⟨v, us, h1, h2, h3⟩ := h; exact ⟨v, us, hid _ h1, h2, h3⟩

theorem hget_mem : ∀ {l : List (Nat × Ent)} {id : Nat} {e : Ent}, hget l id = some e → (id, e) ∈ l
  | x :: l, id, e, h => by
    unfold hget at h
    split at h
    · rename_i hx
      cases h
      rw [← hx]
      exact List.mem_cons_self ..
    · exact List.mem_cons_of_mem _ (hget_mem h)
  | [], _, _, h => by cases h

theorem tv_mem_or (σ : St) (t : Nat) : σ.tv t ∈ σ.tmps ∨ σ.tv t = .lf .undef := by
  unfold St.tv
  rw [List.getD]
  cases h : σ.tmps[t]? with
  | none => exact .inr rfl
  | some v => exact .inl (List.mem_of_getElem? h)

theorem weak_heap {ids : List Nat} (h1 : σ.tmps.all (fun v => (tvIds v).all ids.contains) = true) (h2 : (σ.heap.filter fun x => ids.contains x.1).all (fun x => (ebIds x.2.b).all ids.contains) = true)
    (S : Sim π w0 own w a σ β ok) : Sim π w0 own w a { σ with heap := σ.heap.filter fun x => ids.contains x.1 } (fun j => if ids.contains j then β j else none) ok := by
  have hsub : ∀ j u, (fun j => if ids.contains j then β j else none) j = some u → β j = some u ∧ ids.contains j = true := fun j u hj => by
    by_cases h : ids.contains j = true
    · simp only [h, if_true] at hj; exact ⟨hj, h⟩
    · simp only [h, Bool.false_eq_true, if_false] at hj; cases hj
  have hto : ∀ j, ids.contains j = true → ∀ u, β j = some u → (fun j => if ids.contains j then β j else none) j = some u := fun j h u hu => by
    simp only [h, if_true]; exact hu
  have hlk : ∀ j e, hget (σ.heap.filter fun x => ids.contains x.1) j = some e → hget σ.heap j = some e ∧ ids.contains j = true := fun j e hj => by
    rw [hget_filter] at hj
    by_cases h : ids.contains j = true
    · rw [if_pos h] at hj; exact ⟨hj, h⟩
    · rw [if_neg h] at hj; cases hj
  have I := S.inv
  refine ⟨⟨I.fr, I.okLt, ?_, ?_, ?_, ?_, ?_, ?_⟩, fun t => ?_, S.size, S.def0, fun id v h3 h4 => S.pin id v h3 (hsub id v h4).1, S.okB⟩
  · intro j u hj
    obtain ⟨h3, h4⟩ := hsub j u hj
    obtain ⟨e, he⟩ := I.dom j u h3
    exact ⟨e, by show hget _ j = _; rw [hget_filter, if_pos h4]; exact he⟩
  · intro j e hj
    obtain ⟨h3, h4⟩ := hlk j e hj
    refine (I.ent j e h3).sub (fun i hi => hto i ?_) (hto j h4)
    have := List.all_eq_true.1 h2 (j, e) (hget_mem hj)
    exact List.all_eq_true.1 this i hi
  · intro j e hj hw; exact I.dw j e (hlk j e hj).1 hw
  · intro j e u g hj hw hu hg; exact I.wr j e u g (hlk j e hj).1 hw (hsub j u hu).1 hg
  · intro j e u g hj hw hl hu hg; exact I.ro j e u g (hlk j e hj).1 hw hl (hsub j u hu).1 hg
  · intro i e u j e' u' g hij hi hj hw hl hu hu' hg hg'
    exact I.sep i e u j e' u' g hij (hlk i e hi).1 (hlk j e' hj).1 hw hl (hsub i u hu).1 (hsub j u' hu').1 hg hg'
  · refine (S.tmps t).sub fun i hi => hto i ?_
    rcases tv_mem_or σ t with h | h
    · exact List.all_eq_true.1 (List.all_eq_true.1 h1 _ h) i hi
    · have hi' : i ∈ tvIds (σ.tv t) := hi
      rw [h] at hi'
      cases hi'

theorem hget_ren {id id' : Nat} (hne : id ≠ id') : ∀ {l : List (Nat × Ent)}, hget l id' = none → ∀ k, hget (renHeap (swapTo id id') l) k = (if k = id' then (hget l id).map fun e => ⟨e.w, renEB (swapTo id id') e.b⟩ else if k = id then none else (hget l k).map fun e => ⟨e.w, renEB (swapTo id id') e.b⟩)
  | [], _, k => by simp [renHeap, hget]
  | x :: l, hn, k => by
    unfold hget at hn
    split at hn
    · cases hn
    rename_i hx
    have ih := hget_ren hne hn k
    simp only [renHeap, hget]
    by_cases h1 : x.1 = id
    · have : swapTo id id' x.1 = id' := by simp [swapTo, h1]
      rw [this]
      by_cases hk : k = id'
      · subst hk
        simp [h1]
      · rw [if_neg fun e => hk e.symm, ih, if_neg hk, if_neg hk]
        by_cases hk2 : k = id
        · simp [hk2]
        · rw [if_neg hk2, if_neg hk2, if_neg fun e => hk2 (e.symm.trans h1)]
    · have : swapTo id id' x.1 = x.1 := by simp [swapTo, h1]
      rw [this]
      by_cases hk : x.1 = k
      · have h2 : k ≠ id' := fun e => hx (hk.trans e)
        have h3 : k ≠ id := fun e => h1 (hk.trans e)
        simp [hk, h2, h3]
      · rw [if_neg hk, ih]
        by_cases hk1 : k = id'
        · simp [hk1, h1]
        · by_cases hk2 : k = id
          · simp [hk2, hne]
          · simp [hk1, hk2, hk]

theorem weak_ren {id id' : Nat} (hpar : id' < parBase) (hne : id ≠ id') {e0 : Ent} (h1 : hget σ.heap id = some e0) (h2 : hget σ.heap id' = none) (S : Sim π w0 own w a σ β ok) :
    Sim π w0 own w a ⟨σ.tmps.map (renTV (swapTo id id')), renHeap (swapTo id id') σ.heap⟩ (fun k => if k = id' then β id else if k = id then none else β k) ok := by
  have I := S.inv
  have hn : β id' = none := by
    cases hb : β id' with
    | none => rfl
    | some u => obtain ⟨e, he⟩ := I.dom id' u hb; rw [h2] at he; cases he
  have hto : ∀ j u, β j = some u → (fun k => if k = id' then β id else if k = id then none else β k) (swapTo id id' j) = some u := fun j u hj => by
    unfold swapTo
    by_cases h : j = id
    · simp [h]; rw [← h]; exact hj
    · have : j ≠ id' := fun e => by rw [e, hn] at hj; cases hj
      simp [h, this, hj]
  -- back
  have hfrom : ∀ k u, (fun k => if k = id' then β id else if k = id then none else β k) k = some u → ∃ j, swapTo id id' j = k ∧ β j = some u ∧ (k = id' → j = id) ∧ (k ≠ id' → j = k) := fun k u hk => by
    simp only at hk
    by_cases h : k = id'
    · rw [if_pos h] at hk
      exact ⟨id, by simp [swapTo, h], hk, fun _ => rfl, fun h' => absurd h h'⟩
    · rw [if_neg h] at hk
      by_cases h' : k = id
      · rw [if_pos h'] at hk; cases hk
      · rw [if_neg h'] at hk
        exact ⟨k, by simp [swapTo, h'], hk, fun e => absurd e h, fun _ => rfl⟩
  have hlk : ∀ k e, hget (renHeap (swapTo id id') σ.heap) k = some e → ∃ j e1, swapTo id id' j = k ∧ hget σ.heap j = some e1 ∧ e = ⟨e1.w, renEB (swapTo id id') e1.b⟩ ∧ (k = id' → j = id) ∧ (k ≠ id' → j = k) := fun k e hk => by
    rw [hget_ren hne h2] at hk
    by_cases h : k = id'
    · rw [if_pos h] at hk
      simp only [Option.map_eq_some_iff] at hk
      obtain ⟨e1, h3, rfl⟩ := hk
      exact ⟨id, e1, by simp [swapTo, h], h3, rfl, fun _ => rfl, fun h' => absurd h h'⟩
    · rw [if_neg h] at hk
      by_cases h' : k = id
      · rw [if_pos h'] at hk; cases hk
      · rw [if_neg h'] at hk
        simp only [Option.map_eq_some_iff] at hk
        obtain ⟨e1, h3, rfl⟩ := hk
        exact ⟨k, e1, by simp [swapTo, h'], h3, rfl, fun e => absurd e h, fun _ => rfl⟩
  have hsame : ∀ {k j j' : Nat}, (k = id' → j = id) → (k ≠ id' → j = k) → (k = id' → j' = id) → (k ≠ id' → j' = k) → j = j' := fun {k j j'} a b c d => by
    by_cases h : k = id'
    · rw [a h, c h]
    · rw [b h, d h]
  refine ⟨⟨I.fr, I.okLt, ?_, ?_, ?_, ?_, ?_, ?_⟩, fun t => ?_, by simpa using S.size, S.def0, fun k v h3 h4 => ?_, S.okB⟩
  rotate_right
  · obtain ⟨j, _, hj, _, b1⟩ := hfrom k v h4
    have := b1 (by omega)
    subst this
    exact S.pin j v h3 hj
  · intro k u hk
    obtain ⟨j, hjk, hj, a1, b1⟩ := hfrom k u hk
    obtain ⟨e, he⟩ := I.dom j u hj
    show ∃ e, hget (renHeap (swapTo id id') σ.heap) k = some e
    rw [hget_ren hne h2]
    by_cases h : k = id'
    · rw [if_pos h, h1]; exact ⟨_, rfl⟩
    · have hjk' := b1 h
      subst hjk'
      have : j ≠ id := fun e => h (by rw [← hjk, e]; simp [swapTo])
      rw [if_neg h, if_neg this, he]
      exact ⟨_, rfl⟩
  · intro k e hk
    obtain ⟨j, e1, rfl, hj, rfl, _, _⟩ := hlk k e hk
    exact (I.ent j e1 hj).ren (fun i _ => hto i) (hto j)
  · intro k e hk hw
    obtain ⟨j, e1, rfl, hj, rfl, _, _⟩ := hlk k e hk
    rw [live_ren (q' := e1.w)]
    exact I.dw j e1 hj hw
  · intro k e u g hk hw hu hg
    obtain ⟨j, e1, _, hj, rfl, a1, b1⟩ := hlk k e hk
    obtain ⟨j', _, hj', a2, b2⟩ := hfrom k u hu
    have := hsame a1 b1 a2 b2
    subst this
    exact I.wr j e1 u g hj hw hj' hg
  · intro k e u g hk hw hl hu hg
    obtain ⟨j, e1, _, hj, rfl, a1, b1⟩ := hlk k e hk
    obtain ⟨j', _, hj', a2, b2⟩ := hfrom k u hu
    have := hsame a1 b1 a2 b2
    subst this
    rw [live_ren (q' := e1.w)] at hl
    exact I.ro j e1 u g hj hw hl hj' hg
  · intro k1 e u k2 e' u' g hij hk1 hk2 hw hl hu hu' hg hg'
    obtain ⟨j, e1, r1, hj, rfl, a1, b1⟩ := hlk k1 e hk1
    obtain ⟨j', _, hj', a2, b2⟩ := hfrom k1 u hu
    have e3 := hsame a1 b1 a2 b2
    subst e3
    obtain ⟨i, e2, r2, hi, rfl, a3, b3⟩ := hlk k2 e' hk2
    obtain ⟨i', _, hi', a4, b4⟩ := hfrom k2 u' hu'
    have e4 := hsame a3 b3 a4 b4
    subst e4
    rw [live_ren (q' := e2.w)] at hl
    exact I.sep j e1 u i e2 u' g (fun e => hij (by rw [← r1, ← r2, e])) hj hi hw hl hj' hi' hg hg'
  · have := (S.tmps t).ren (β2 := fun k => if k = id' then β id else if k = id then none else β k) (g := swapTo id id') hto
    show RepV w ok _ _ ((σ.tmps.map (renTV (swapTo id id'))).getD t (.lf .undef))
    unfold St.tv at this
    simp only [List.getD, List.getElem?_map] at this ⊢
    cases h : σ.tmps[t]? with
    | none => exact trivial
    | some v => rw [h] at this; exact this

theorem gc_weak {σ : St} {π : Pin} {w0 : World} {own : Nat → Prop} {w : World} {a : Act} {β : Nat → Option Value} {ok : Nat → Prop} {ids : List Nat}
    (hc : (σ.tmps.all (fun v => (tvIds v).all ids.contains) && (σ.heap.filter fun x => ids.contains x.1).all (fun x => (ebIds x.2.b).all ids.contains)) = true) (S : Sim π w0 own w a σ β ok) :
    ∃ β' ok', Sim π w0 own w a { σ with heap := gcHeap σ.heap ids } β' ok' := by
  rw [Bool.and_eq_true] at hc
  have S' := weak_heap hc.1 hc.2 S
  have h : hget (gcHeap σ.heap ids) = hget (σ.heap.filter fun x => ids.contains x.1) := funext fun id => by rw [hget_gc, hget_filter]
  have I := S'.inv
  rw [← h] at I
  exact ⟨_, ok, ⟨I, S'.tmps, S'.size, S'.def0, S'.pin, S'.okB⟩⟩

theorem RepLs.setL {w : World} {ok : Nat → Prop} {β : Nat → Option Value} {l' : Leaf} : ∀ {vs : List Value} {ls : List Leaf} {n : Nat}, RepLs w ok β vs ls → (∀ v, vs[n]? = some v → RepL w ok β v l') → RepLs w ok β vs (ls.set n l')
  | [], [], _, h, _ => h
  | v :: _, _ :: _, 0, h, h' => ⟨h' v rfl, h.2⟩
  | _ :: _, _ :: _, n + 1, h, h' => ⟨h.1, RepLs.setL (n := n) h.2 h'⟩
  | [], _ :: _, _, h, _ => h.elim
  | _ :: _, [], _, h, _ => h.elim

/-- A block's cells told otherwise. -/
theorem cells_weak {σ : St} {π : Pin} {w0 : World} {own : Nat → Prop} {w : World} {a : Act} {β : Nat → Option Value} {ok : Nat → Prop} {id : Nat} {ls ls' : List Leaf}
    (hid : hget σ.heap id = some ⟨true, .cells ls⟩) (hr : ∀ cs : List Value, RepLs w ok β cs ls → RepLs w ok β cs ls') (S : Sim π w0 own w a σ β ok) :
    Sim π w0 own w a { σ with heap := hset id ⟨true, .cells ls'⟩ σ.heap } β ok := by
  obtain ⟨g, cs, et, h1, h2, h3⟩ := S.inv.ent id _ hid
  have hm := S.inv.mine hid rfl h1
  have hβe : (fun j => if j = id then some (Value.pointer (some ⟨g, 0, none⟩)) else β j) = β := by
    funext j
    by_cases h : j = id
    · subst h; simp [h1]
    · simp [h]
  have := S.inv.put id (.cells ls') (.pointer (some ⟨g, 0, none⟩)) ok rfl rfl rfl (Nat.le_refl _) (fun _ _ _ => rfl) (fun _ h => h) (fun _ h => .inl h) (.inr h1) hm rfl (by
    rw [hβe]
    exact ⟨g, cs, et, h1, h2, hr _ h3⟩)
  rw [hβe] at this
  refine ⟨?_, S.tmps, S.size, S.def0, S.pin, S.okB⟩
  show Inv w0 own w β ok (hget (hset id ⟨true, .cells ls'⟩ σ.heap))
  rw [hget_hset]
  exact this

/-- A new row, of nothing. -/
theorem row_weak {σ : St} {π : Pin} {w0 : World} {own : Nat → Prop} {w : World} {a : Act} {β : Nat → Option Value} {ok : Nat → Prop} {rid : Nat} {et : TypeId} {ty : Ty}
    (hid : hget σ.heap rid = none) (hpar : rid < parBase) (S : Sim π w0 own w a σ β ok) :
    Sim π w0 own w a { σ with heap := hset rid ⟨true, .arr et ty []⟩ σ.heap } (fun j => if j = rid then some (.slice none 0 0) else β j) ok := by
  have hβ : β rid = none := by
    cases hb : β rid with
    | none => rfl
    | some u => obtain ⟨e, he⟩ := S.inv.dom rid u hb; rw [hid] at he; cases he
  have hββ := new_beta S.inv rid hid (.slice none 0 0)
  refine ⟨?_, fun t' => (S.tmps t').mono (fun _ _ => rfl) (fun _ h => h) hββ, S.size, S.def0, fun j v h3 h4 => S.pin j v h3 (pin_new hpar j v h3 h4), S.okB⟩
  show Inv w0 own w _ ok (hget (hset rid ⟨true, .arr et ty []⟩ σ.heap))
  rw [hget_hset]
  refine S.inv.put rid (.arr et ty []) (.slice none 0 0) ok rfl rfl rfl (Nat.le_refl _) (fun _ _ _ => rfl) (fun _ h => h) (fun _ h => .inl h) (.inl hβ) (fun g hg => by cases hg) rfl ?_
  exact ⟨.slice none 0 0, [], by simp, World.ownsRow_nil w 0 et ty.size, fun i hi => absurd hi (Nat.not_lt_zero i)⟩

theorem cellRow_weak {σ : St} {π : Pin} {w0 : World} {own : Nat → Prop} {w : World} {a : Act} {β : Nat → Option Value} {ok : Nat → Prop} {id off rid : Nat} {et : TypeId} {ty : Ty} {ls : List Leaf}
    (hid : hget σ.heap id = some ⟨true, .cells ls⟩) (hl : ls[off]? = some .nil) (hr : hget σ.heap rid = none) (hpar : rid < parBase) (hne : rid ≠ id) (S : Sim π w0 own w a σ β ok) :
    ∃ β' ok', Sim π w0 own w a { σ with heap := hset id ⟨true, .cells (ls.set off (.ref rid))⟩ (hset rid ⟨true, .arr et ty []⟩ σ.heap) } β' ok' := by
  have S1 := row_weak (et := et) (ty := ty) hr hpar S
  have hid1 : hget (hset rid ⟨true, .arr et ty []⟩ σ.heap) id = some ⟨true, .cells ls⟩ := by
    rw [hget_hset]
    simp only [upd1]
    rw [if_neg fun e => hne e.symm]
    exact hid
  refine ⟨_, _, cells_weak (σ := { σ with heap := hset rid ⟨true, .arr et ty []⟩ σ.heap }) hid1 (fun cs h => h.setL fun v hv => ?_) S1⟩
  obtain ⟨v', hv', hr'⟩ := h.get hl
  rw [hv] at hv'
  cases hv'
  exact ⟨by simp [show v = Value.slice none 0 0 from hr'], none, 0, 0, hr'⟩

theorem weak_go {x : WOp} {σ σ' : St} (e : x.go σ = some σ') : Weak σ σ' := by
  intro π w0 own w a β ok S
  cases x with
  | keep ts =>
    cases e
    refine ⟨β, ok, S.inv, fun t => ?_, by rw [S.size]; exact (keepT_length ..).symm, S.def0, S.pin, S.okB⟩
    show RepV w ok β _ ((keepT ts 0 σ.tmps).getD t (.lf .undef))
    rw [keepT_get]
    split
    · exact S.tmps t
    · trivial
  | heap ids =>
    simp only [WOp.go] at e
    split at e
    · rename_i hc
      cases e
      simp only [Bool.and_eq_true] at hc
      exact ⟨_, ok, weak_heap hc.1 hc.2 S⟩
    · cases e
  | nilRow t id et ty =>
    simp only [WOp.go] at e
    split at e
    · rename_i htv
      split at e
      · rename_i hid
        split at e
        case isFalse => cases e
        rename_i hpar
        cases e
        have hv : a.tmps.getD t undef = .slice none 0 0 := by have := S.tmps t; rw [htv] at this; exact this
        have hlt : t < σ.tmps.length := by
          apply Decidable.byContradiction
          intro h
          unfold St.tv at htv
          rw [List.getD, List.getElem?_eq_none (Nat.le_of_not_lt h)] at htv
          cases htv
        have hβ : β id = none := by
          cases hb : β id with
          | none => rfl
          | some u => obtain ⟨e, he⟩ := S.inv.dom id u hb; rw [hid] at he; cases he
        have hββ := new_beta S.inv id hid (.slice none 0 0)
        refine ⟨fun j => if j = id then some (.slice none 0 0) else β j, ok, ⟨?_, fun t' => ?_, by simpa using S.size, S.def0, fun j v h3 h4 => S.pin j v h3 (pin_new hpar j v h3 h4), S.okB⟩⟩
        · show Inv w0 own w _ ok (hget (hset id ⟨true, .arr et ty []⟩ σ.heap))
          rw [hget_hset]
          refine S.inv.put id (.arr et ty []) (.slice none 0 0) ok rfl rfl rfl (Nat.le_refl _) (fun _ _ _ => rfl) (fun _ h => h) (fun _ h => .inl h) (.inl hβ) (fun g hg => by cases hg) rfl ?_
          exact ⟨.slice none 0 0, [], by simp, World.ownsRow_nil w 0 et ty.size, fun i hi => absurd hi (Nat.not_lt_zero i)⟩
        · show RepV w ok _ _ ((σ.put (some t) (.lf (.ref id))).tv t')
          rw [St.tv_put]
          by_cases h : t = t' ∧ t' < σ.tmps.length
          · rw [if_pos h, ← h.1, hv]
            exact ⟨by simp, _, _, _, rfl⟩
          · rw [if_neg h]
            exact (S.tmps t').mono (fun _ _ => rfl) (fun _ h => h) hββ
      · cases e
    · cases e; exact ⟨β, ok, S⟩
  | nilDat t ty =>
    simp only [WOp.go] at e
    split at e
    · rename_i htv
      cases e
      have hv : a.tmps.getD t undef = .slice none 0 0 := by have := S.tmps t; rw [htv] at this; exact this
      refine ⟨β, ok, S.name t ?_⟩
      rw [hv]
      exact ⟨none, 0, rfl, Nat.le_refl _, Nat.zero_le _, fun _ => rfl, fun i hi => absurd hi (Nat.not_lt_zero i)⟩
    · cases e; exact ⟨β, ok, S⟩
  | toDat t =>
    simp only [WOp.go] at e
    split at e
    · rename_i v' ids hres
      cases e
      obtain ⟨ok1, hk1, I1, _, hz, hB⟩ := S.inv.freezes ids (FrozenOf.refl _) (resolveT_ids hres)
      refine ⟨β, ok1, ⟨?_, fun t' => ?_, by simpa using S.size, S.def0, S.pin, fun b hb => (hB b hb).elim (fun h => S.okB b h) .inr⟩⟩
      · show Inv w0 own w β ok1 (hget (hupd σ.heap (freezes (hget σ.heap) ids)))
        rw [hget_hupd]
        exact I1
      · show RepV w ok1 _ _ ((σ.put (some t) v').tv t')
        rw [St.tv_put]
        by_cases h : t = t' ∧ t' < σ.tmps.length
        · rw [if_pos h, ← h.1]
          have := resolveTs_rep (h := hget σ.heap) I1 (ts := [σ.tv t]) (ts' := [v']) (ids := ids) (vs := [a.tmps.getD t undef]) (by simp [resolveTs, hres]) ⟨(S.tmps t).mono (fun _ _ => rfl) hk1 (fun _ _ h => h), trivial⟩ hz
          exact this.1
        · rw [if_neg h]
          exact (S.tmps t').mono (fun _ _ => rfl) hk1 (fun _ _ h => h)
    · cases e; exact ⟨β, ok, S⟩
  | cellDat id =>
    simp only [WOp.go] at e
    split at e
    · rename_i ls hid
      split at e
      · rename_i ls' ids hres
        split at e
        case isTrue => cases e
        rename_i hni
        cases e
        have hni : id ∉ ids := by simpa using hni
        obtain ⟨ok1, hk1, I1, _, hz, hB⟩ := S.inv.freezes ids (FrozenOf.refl _) (resolveL_ids hres)
        have hid1 : updAll (hget σ.heap) (freezes (hget σ.heap) ids) id = some ⟨true, .cells ls⟩ := by rw [freezes_other hni]; exact hid
        obtain ⟨g, cs, et, h1, h2, h3⟩ := I1.ent id _ hid1
        have hm := I1.mine hid1 rfl h1
        have hβe : (fun j => if j = id then some (Value.pointer (some ⟨g, 0, none⟩)) else β j) = β := by
          funext j
          by_cases h : j = id
          · subst h; simp [h1]
          · simp [h]
        refine ⟨β, ok1, ⟨?_, fun t' => (S.tmps t').mono (fun _ _ => rfl) hk1 (fun _ _ h => h), S.size, S.def0, S.pin, fun b hb => (hB b hb).elim (fun h => S.okB b h) .inr⟩⟩
        show Inv w0 own w β ok1 (hget (hset id ⟨true, .cells ls'⟩ (hupd σ.heap (freezes (hget σ.heap) ids))))
        rw [hget_hset, hget_hupd]
        have := I1.put id (.cells ls') (.pointer (some ⟨g, 0, none⟩)) ok1 rfl rfl rfl (Nat.le_refl _) (fun _ _ _ => rfl) (fun _ h => h) (fun _ h => .inl h) (.inr h1) hm rfl (by
          rw [hβe]
          exact ⟨g, cs, et, h1, h2, resolveL_rep I1 hres h3 hz⟩)
        rwa [hβe] at this
      · cases e
    · cases e; exact ⟨β, ok, S⟩
  | ren t id' =>
    simp only [WOp.go] at e
    split at e
    · rename_i id htv
      split at e
      · rename_i e0 h1 h2
        split at e
        case isFalse => cases e
        rename_i hpar
        cases e
        have hne : id ≠ id' := fun e => by rw [e, h2] at h1; cases h1
        exact ⟨_, ok, weak_ren hpar hne h1 h2 S⟩
      · split at e
        · cases e; exact ⟨β, ok, S⟩
        · cases e
    · cases e; exact ⟨β, ok, S⟩
  | cellRow id off rid et ty =>
    simp only [WOp.go] at e
    split at e
    · rename_i ls hid
      split at e
      · rename_i hl
        split at e
        · rename_i hr
          split at e
          · rename_i hc
            cases e
            exact cellRow_weak hid hl hr hc.1 hc.2 S
          · cases e
        · cases e
      · cases e; exact ⟨β, ok, S⟩
    · cases e; exact ⟨β, ok, S⟩
  | cellRen id off rid =>
    simp only [WOp.go] at e
    split at e
    · split at e
      · rename_i r hl
        split at e
        · rename_i e0 h1 h2
          split at e
          case isFalse => cases e
          rename_i hpar
          cases e
          have hne : r ≠ rid := fun e => by rw [e, h2] at h1; cases h1
          exact ⟨_, ok, weak_ren hpar hne h1 h2 S⟩
        · split at e
          · cases e; exact ⟨β, ok, S⟩
          · cases e
      · cases e; exact ⟨β, ok, S⟩
    · cases e; exact ⟨β, ok, S⟩
  | cellDen id tys =>
    simp only [WOp.go] at e
    split at e
    · rename_i ls hid
      cases e
      exact ⟨β, ok, cells_weak hid (fun cs h => denLeaves_rep h) S⟩
    · cases e; exact ⟨β, ok, S⟩
  | den t tys =>
    cases e
    exact ⟨β, ok, S.name t (denTV_rep (S.tmps t))⟩
  | gc =>
    simp only [WOp.go] at e
    split at e
    · rename_i hc
      cases e
      exact gc_weak hc S
    · cases e

theorem weaken_weak : ∀ {l : List WOp} {σ σ' : St}, weaken l σ = some σ' → Weak σ σ'
  | [], _, _, e => by cases e; exact Weak.refl _
  | x :: l, σ, σ', e => by
    unfold weaken at e
    split at e
    · rename_i σ1 h1
      exact (weak_go h1).trans (weaken_weak e)
    · cases e
end

/-! ### Loops -/
/-- A loop, by an invariant over what lives at its head, and a number that every round lowers. 'F x': what comes of the loop from 'x' on. -/
theorem loop_rule {P : Program} {T : CallT} {L : Told} (hm : P.follows .mixedOrders = true) (hT : SoundT P T) {α : Type} {b : Nat} {body : Code} (mk : α → St) (I : α → Prop) (μ : α → Nat) (F : α → (Ev → Prop) → Prop)
    (hr : ∀ x ∈ regsOf body, RegOK P L x) (hl : ∀ x ∈ loopsOf b body, LoopOK P L x)
    (round : ∀ x, I x → ∀ K, F x K → (evCode P T L b body (mk x)).sat fun
      | .norm σ => ∃ x' σ', Weak σ σ' ∧ σ' = mk x' ∧ I x' ∧ μ x' < μ x ∧ F x' K
      | e => K e) :
    ∀ x, I x → ∀ K, F x K → ∀ (π : Pin) (w0 : World) (own : Nat → Prop) (a : Act) (w : World) (β : Nat → Option Value) (ok : Nat → Prop), Sim π w0 own w a (mk x) β ok → (Code.loop body).wp P (OutOK π w0 own K) a w := by
  intro x hI K hF π w0 own a w β ok S
  refine wp_loop_ghost (fun n a w => ∃ x, μ x = n ∧ I x ∧ F x K ∧ ∃ β ok, Sim π w0 own w a (mk x) β ok) (μ x) ⟨x, rfl, hI, hF, β, ok, S⟩ ?_
  rintro n a w ⟨x, rfl, hI, hF, β, ok, S⟩
  refine wp_mono (evCode_sound hm hT body b (mk x) _ a w β ok hr hl S (round x hI K hF)) ?_
  rintro e a' w' ⟨ev, β', ok', hK, hev⟩
  cases ev with
  | norm σ =>
    obtain ⟨rfl, S'⟩ := hev
    obtain ⟨x', σ', hw, rfl, hI', hlt, hF'⟩ := hK
    obtain ⟨β2, ok2, S2⟩ := hw π w0 own w' a' β' ok' S'
    exact ⟨μ x', hlt, x', rfl, hI', hF', β2, ok2, S2⟩
  | ret σ => obtain ⟨rfl, S'⟩ := hev; exact ⟨.ret σ, β', ok', hK, rfl, S'⟩
  | exit id σ => obtain ⟨rfl, S'⟩ := hev; exact ⟨.exit id σ, β', ok', hK, rfl, S'⟩

end Go.Proofs.Ytlfdidaeachpoaa

/- The engine, part N: functions. -/
namespace Go.Proofs.Ytlfdidaeachpoaa
open Go Go.RowKit

/-- The number, outside, of a block that a result leads to. -/
def outId (n : Nat) (ids : List Nat) (j : Nat) : Nat := if parBase ≤ j then j - parBase else n + idxOf ids j

def parEnts (look : Look) (n : Nat) : Nat → Option (List Ent)
  | 0 => some []
  | k + 1 => match look (parBase + (n - (k + 1))), parEnts look n k with
    | some e, some es => if e.w && e.live then some (e :: es) else none
    | _, _ => none

def freshEnts (look : Look) : List Nat → Option (List Ent)
  | [] => some []
  | id :: ids => match look id, freshEnts look ids with
    | some e, some es => if e.w && e.live then some (e :: es) else none
    | _, _ => none

def inPar (n j : Nat) : Bool := decide (parBase ≤ j) && decide (j < parBase + n)

def flatTy : Ty → Bool
  | .sl _ => false
  | .pair a b => flatTy a && flatTy b
  | _ => true

def flatLeaf : Leaf → Bool
  | .dat _ _ => false
  | _ => true

def flatEB : EB → Bool
  | .cells ls => ls.all flatLeaf
  | .arr _ t _ => flatTy t
  | .dead => true

def flatTV : TV → Bool
  | .lf l => flatLeaf l
  | .agg cs => cs.all flatLeaf
  | .tup cs => cs.all fun c => c.2.all flatLeaf
  | _ => false

/-- What a call hands back, out of the state at its end. -/
def outOf (P : Program) (fn : Func) (n : Nat) (shares : Bool) (σ : St) : Option CallRes :=
  match (resList P σ fn.results.toList).bind results1, parEnts (hget σ.heap) n n with
  | some v, some ps =>
    let roots := tvIds v ++ ps.flatMap fun e => ebIds e.b
    let ids := (closeIds (hget σ.heap) 3 (addIds roots [])).filter fun j => decide (j < parBase)
    match freshEnts (hget σ.heap) ids with
    | none => none
    | some fs =>
      if nodupB ids = true ∧ (roots.all fun j => ids.contains j || inPar n j) = true ∧ (fs.all fun e => (ebIds e.b).all fun j => ids.contains j || inPar n j) = true ∧
          (shares = true ∨ (flatTV v && ps.all (fun e => flatEB e.b) && fs.all (fun e => flatEB e.b)) = true) then
        some ⟨true, renTV (outId n ids) v, ps.map fun e => ⟨e.w, renEB (outId n ids) e.b⟩, fs.map fun e => ⟨e.w, renEB (outId n ids) e.b⟩, shares⟩
      else none
  | _, _ => none

/-- At the end of a call. -/
def RetOK (P : Program) (fn : Func) (n : Nat) (plan : List WOp) (r : CallRes) : Ev → Prop
  | .ret σ | .norm σ => ∃ σ', weaken plan σ = some σ' ∧ ∃ r', outOf P fn n r.shares σ' = some r' ∧ r'.val = r.val ∧ r'.ents = r.ents ∧ r'.fresh = r.fresh
  | .exit _ _ => False

section
variable {P : Program} {T : CallT} {π : Pin} {w0 : World} {own : Nat → Prop} {w : World} {β : Nat → Option Value} {ok : Nat → Prop} {a : Act} {σ : St}

theorem loadVar_run (I : Inv w0 own w β ok (hget σ.heap)) {t : TypeId} {v : Value} {ta : TV} (hr : RepV w ok β v ta) {r : OpRes} (e : evLoad P (hget σ.heap) t ta = some r) :
    ∃ ad u, v = .pointer (some ad) ∧ (loadVar t ad).run P w = .ok u w ∧ RepV w ok β u r.val := by
  unfold evLoad at e
  split at e
  · cases e
  · rename_i ls q ha
    obtain ⟨b, off, us, hv, hm, hl⟩ := addrCells_rep I hr ha
    split at e
    · cases e
    · rename_i d hu
      split at e
      · rename_i hagg
        split at e
        · rename_i hlen
          cases e
          have hle : P.cellsOf t ≤ us.length := by rw [hl.length]; exact hlen
          refine ⟨_, .agg (us.take (P.cellsOf t)).toArray, hv, ?_, ⟨_, rfl, hl.take _⟩⟩
          simp [loadVar, isAgg_run hu, hagg, sizeOf_run hu, run_loadCells_mem hm hle]
        · cases e
      · rename_i hagg
        split at e
        · rename_i l ls'
          cases e
          cases us with
          | nil => exact hl.elim
          | cons u us =>
            refine ⟨_, u, hv, ?_, hl.1⟩
            have hc : w.cell? ⟨b, off, none⟩ = some u := by simpa using hm 0 u rfl
            simp [loadVar, isAgg_run hu, hagg, run_load, hc]
        · cases e

def resSem (tmps : Array Value) (x : ResultVar) : Sem Value :=
  match x with
  | .tmp t => pure (tmps.getD t undef)
  | .cell c t => do loadVar t (← asAddr (tmps.getD c undef))

theorem resList_run (S : Sim π w0 own w a σ β ok) : ∀ {rs : List ResultVar} {vs : List TV}, resList P σ rs = some vs →
    ∃ us, (rs.mapM (resSem a.tmps)).run P w = .ok us w ∧ RepVs w ok β us vs
  | [], vs, e => by cases e; exact ⟨[], by simp, trivial⟩
  | x :: rs, vs, e => by
    unfold resList at e
    split at e
    · rename_i v vs' h1 h2
      cases e
      obtain ⟨us, hrun, hrep⟩ := resList_run S h2
      cases x with
      | tmp t =>
        cases h1
        exact ⟨a.tmps.getD t undef :: us, by simp [List.mapM_cons, hrun, resSem], S.tmps t, hrep⟩
      | cell c t =>
        simp only [resOf, Option.map_eq_some_iff] at h1
        obtain ⟨r, h3, rfl⟩ := h1
        obtain ⟨ad, u, h4, h5, h6⟩ := loadVar_run S.inv (S.tmps c) h3
        exact ⟨u :: us, by simp [List.mapM_cons, hrun, resSem, h4, asAddr, h5], h6, hrep⟩
    · cases e

theorem asComps_rep : ∀ {us : List Value} {vs : List TV} {cs : List (Bool × List Leaf)}, asComps vs = some cs → RepVs w ok β us vs → RepCs w ok β us cs
  | [], [], _, e, _ => by cases e; trivial
  | u :: us, v :: vs, cs, e, ⟨h1, h2⟩ => by
    unfold asComps at e
    split at e
    · rename_i c cs' hc hcs
      cases e
      refine ⟨?_, asComps_rep hcs h2⟩
      unfold asComp at hc
      split at hc
      · cases hc; exact ⟨h1, trivial⟩
      · cases hc; exact h1
      · cases hc
    · cases e
  | [], _ :: _, _, _, h => h.elim
  | _ :: _, [], _, _, h => h.elim

theorem results_run (S : Sim π w0 own w a σ β ok) {fn : Func} {v : TV} (e : (resList P σ fn.results.toList).bind results1 = some v) :
    ∃ u, (results fn a.tmps).run P w = .ok u w ∧ RepV w ok β u v := by
  simp only [Option.bind_eq_some_iff] at e
  obtain ⟨vs, h1, h2⟩ := e
  obtain ⟨us, hrun, hrep⟩ := resList_run S h1
  have hru : (results fn a.tmps).run P w = .ok (if h : us.toArray.size = 1 then us.toArray[0] else .tuple us.toArray) w := by
    have hdef : results fn a.tmps = (do
        let vs ← fn.results.mapM (resSem a.tmps)
        pure (if h : vs.size = 1 then vs[0] else .tuple vs)) := rfl
    rw [hdef, Array.mapM_eq_mapM_toList]
    simp [hrun, Result.andThen]
  refine ⟨_, hru, ?_⟩
  unfold results1 at h2
  split at h2
  · cases h2
    cases us with
    | nil => exact hrep.elim
    | cons u us =>
      cases us with
      | nil => exact hrep.1
      | cons _ _ => exact hrep.2.elim
  · rename_i hne
    simp only [Option.map_eq_some_iff] at h2
    obtain ⟨cs, h3, rfl⟩ := h2
    have hlen : us.length ≠ 1 := by
      intro h
      cases us with
      | nil => cases h
      | cons u us =>
        cases us with
        | nil =>
          cases vs with
          | nil => exact hrep.elim
          | cons v vs =>
            cases vs with
            | nil => exact hne v rfl
            | cons _ _ => exact hrep.2.elim
        | cons _ _ => simp at h
    rw [dif_neg (by simpa using hlen)]
    exact ⟨us, rfl, asComps_rep h3 hrep⟩

theorem RepD.okflat {ok' : Nat → Prop} : (t : Ty) → flatTy t = true → {vs : List Value} → {x : t.den} → RepD w ok t vs x → RepD w ok' t vs x
  | .int _, _, _, _, h => h
  | .bool, _, _, _, h => h
  | .str, _, _, _, h => h
  | .sl _, hf, _, _, _ => by cases hf
  | .pair a b, hf, _, _, h => by
    simp only [flatTy, Bool.and_eq_true] at hf
    obtain ⟨us, us', e, h1, h2⟩ := h
    exact ⟨us, us', e, RepD.okflat a hf.1 h1, RepD.okflat b hf.2 h2⟩

theorem RepL.okflat {ok' : Nat → Prop} {v : Value} {l : Leaf} (hf : flatLeaf l = true) (h : RepL w ok β v l) : RepL w ok' β v l := by
  cases l <;> first | exact h | cases hf

theorem RepLs.okflat {ok' : Nat → Prop} : ∀ {vs : List Value} {ls : List Leaf}, ls.all flatLeaf = true → RepLs w ok β vs ls → RepLs w ok' β vs ls
  | [], [], _, _ => trivial
  | _ :: _, _ :: _, hf, ⟨h1, h2⟩ => by
    simp only [List.all_cons, Bool.and_eq_true] at hf
    exact ⟨h1.okflat hf.1, RepLs.okflat hf.2 h2⟩
  | [], _ :: _, _, h => h.elim
  | _ :: _, [], _, h => h.elim

theorem RepCs.okflat {ok' : Nat → Prop} : ∀ {vs : List Value} {cs : List (Bool × List Leaf)}, (cs.all fun c => c.2.all flatLeaf) = true → RepCs w ok β vs cs → RepCs w ok' β vs cs
  | [], [], _, _ => trivial
  | v :: _, (b, ls) :: _, hf, ⟨h1, h2⟩ => by
    simp only [List.all_cons, Bool.and_eq_true] at hf
    refine ⟨?_, RepCs.okflat hf.2 h2⟩
    cases b with
    | true => obtain ⟨us, e, h⟩ := h1; exact ⟨us, e, h.okflat hf.1⟩
    | false => exact RepLs.okflat (vs := [v]) hf.1 h1
  | [], _ :: _, _, h => h.elim
  | _ :: _, [], _, h => h.elim

theorem RepV.okflat {ok' : Nat → Prop} {v : Value} {t : TV} (hf : flatTV t = true) (h : RepV w ok β v t) : RepV w ok' β v t := by
  cases t with
  | lf l => exact RepL.okflat hf h
  | agg cs => obtain ⟨us, e, h⟩ := h; exact ⟨us, e, h.okflat hf⟩
  | tup cs => obtain ⟨us, e, h⟩ := h; exact ⟨us, e, h.okflat hf⟩
  | rptr _ => cases hf
  | eptr _ _ _ _ => cases hf

theorem EntRep.okflat {ok' : Nat → Prop} {id : Nat} {b : EB} (hf : flatEB b = true) (h : EntRep w ok β id b) : EntRep w ok' β id b := by
  cases b with
  | dead => trivial
  | cells ls => obtain ⟨g, cs, e, h1, h2, h3⟩ := h; exact ⟨g, cs, e, h1, h2, h3.okflat hf⟩
  | arr e t xs => obtain ⟨v, us, h1, h2, h3⟩ := h; exact ⟨v, us, h1, h2, fun i hi => (h3 i hi).okflat t hf⟩

theorem parEnts_spec {look : Look} {n : Nat} : ∀ {k : Nat} {es : List Ent}, k ≤ n → parEnts look n k = some es → es.length = k ∧ ∀ i, i < k → ∃ e, look (parBase + (n - k + i)) = some e ∧ es[i]? = some e ∧ e.w = true ∧ e.live = true
  | 0, es, _, e => by cases e; exact ⟨rfl, fun i hi => absurd hi (Nat.not_lt_zero i)⟩
  | k + 1, es, hk, e => by
    unfold parEnts at e
    split at e
    · rename_i e1 es1 h1 h2
      split at e
      · rename_i hc
        cases e
        simp only [Bool.and_eq_true] at hc
        obtain ⟨hl, hr⟩ := parEnts_spec (by omega) h2
        refine ⟨by simp [hl], fun i hi => ?_⟩
        cases i with
        | zero => exact ⟨e1, h1, rfl, hc.1, hc.2⟩
        | succ i =>
          obtain ⟨e2, h3, h4, h5⟩ := hr i (by omega)
          exact ⟨e2, by rw [← h3]; congr 2; omega, by simpa using h4, h5⟩
      · cases e
    · cases e

theorem freshEnts_spec {look : Look} : ∀ {ids : List Nat} {es : List Ent}, freshEnts look ids = some es → es.length = ids.length ∧ ∀ (i : Nat) (id : Nat), ids[i]? = some id → ∃ e, look id = some e ∧ es[i]? = some e ∧ e.w = true ∧ e.live = true
  | [], es, e => by cases e; exact ⟨rfl, fun i id h => by simp at h⟩
  | id :: ids, es, e => by
    unfold freshEnts at e
    split at e
    · rename_i e1 es1 h1 h2
      split at e
      · rename_i hc
        cases e
        simp only [Bool.and_eq_true] at hc
        obtain ⟨hl, hr⟩ := freshEnts_spec h2
        refine ⟨by simp [hl], fun i j hi => ?_⟩
        cases i with
        | zero => simp at hi; subst hi; exact ⟨e1, h1, rfl, hc.1, hc.2⟩
        | succ i =>
          obtain ⟨e2, h3, h4, h5⟩ := hr i j (by simpa using hi)
          exact ⟨e2, h3, by simpa using h4, h5⟩
      · cases e
    · cases e

theorem hget_initHeap : ∀ (es : List Ent) (k j : Nat), hget (initHeap k es) j = if parBase + k ≤ j then (es[j - (parBase + k)]?).map fun e => ⟨e.w, renEB (parBase + ·) e.b⟩ else none
  | [], k, j => by simp [initHeap, hget]
  | e :: es, k, j => by
    simp only [initHeap, hget]
    by_cases h : parBase + k = j
    · rw [if_pos h, if_pos (by omega), show j - (parBase + k) = 0 by omega]
      rfl
    · rw [if_neg h, hget_initHeap es (k + 1) j]
      by_cases h2 : parBase + k ≤ j
      · rw [if_pos (by omega), if_pos h2, show j - (parBase + k) = j - (parBase + (k + 1)) + 1 by omega]
        simp
      · rw [if_neg (by omega), if_neg h2]

theorem RepVs.get : ∀ {vs : List Value} {ts : List TV} {i : Nat}, RepVs w ok β vs ts → RepV w ok β (vs.getD i undef) (ts.getD i (.tup []))
  | [], [], i, _ => by simp [List.getD]; exact ⟨[], rfl, trivial⟩
  | _ :: _, _ :: _, 0, ⟨h, _⟩ => h
  | v :: vs, t :: ts, i + 1, ⟨_, h⟩ => by have := RepVs.get (i := i) h; simpa [List.getD] using this
  | [], _ :: _, _, h => h.elim
  | _ :: _, [], _, h => h.elim

theorem RepVs.length : ∀ {vs : List Value} {ts : List TV}, RepVs w ok β vs ts → vs.length = ts.length
  | [], [], _ => rfl
  | _ :: _, _ :: _, ⟨_, h⟩ => congrArg (· + 1) h.length
  | [], _ :: _, h => h.elim
  | _ :: _, [], h => h.elim

theorem RepVs.renAll {β2 : Nat → Option Value} {g : Nat → Nat} (hg : ∀ id u, β id = some u → β2 (g id) = some u) : ∀ {vs : List Value} {ts : List TV}, RepVs w ok β vs ts → RepVs w ok β2 vs (ts.map (renTV g))
  | [], [], _ => trivial
  | _ :: _, _ :: _, ⟨h1, h2⟩ => ⟨h1.ren hg, RepVs.renAll hg h2⟩
  | [], _ :: _, h => h.elim
  | _ :: _, [], h => h.elim

/-- A FUNCTION: what its text is evaluated to is what a call does. -/
theorem fnSound (hm : P.follows .mixedOrders = true) (hT : SoundT P T) {L : Told} {f : Nat} {fn : Func} {c : Code} (hf : P.funcs[f]? = some fn) (hb : fn.body = some c)
    (hr : ∀ x ∈ regsOf c, RegOK P L x) (hl : ∀ x ∈ loopsOf 0 c, LoopOK P L x) {args : List TV} {es : List Ent} {r : CallRes} (plan : List WOp)
    (hs : (evFn P T L fn c args es).sat (RetOK P fn es.length plan r)) : CallOK P f args es r := by
  intro w vals β ok hok hv hdom hes hnok hsep
  let own : Nat → Prop := fun g => ∃ k u, β k = some u ∧ blk u = some g
  let β0 : Nat → Option Value := fun j => if parBase ≤ j then β (j - parBase) else none
  let π : Pin := ⟨β0, ok⟩
  have hβ0 : ∀ k u, β k = some u → β0 (parBase + k) = some u := fun k u h => by
    show (if parBase ≤ parBase + k then β (parBase + k - parBase) else none) = some u
    rw [if_pos (by omega), Nat.add_sub_cancel_left]
    exact h
  have hβ0' : ∀ j u, β0 j = some u → parBase ≤ j ∧ β (j - parBase) = some u := fun j u h => by
    have h' : (if parBase ≤ j then β (j - parBase) else none) = some u := h
    by_cases hj : parBase ≤ j
    · rw [if_pos hj] at h'; exact ⟨hj, h'⟩
    · rw [if_neg hj] at h'; cases h'
  have hlook : ∀ j e, hget (initHeap 0 es) j = some e → parBase ≤ j ∧ ∃ e0, es[j - parBase]? = some e0 ∧ e = ⟨e0.w, renEB (parBase + ·) e0.b⟩ := fun j e h => by
    rw [hget_initHeap] at h
    by_cases hj : parBase ≤ j
    · rw [if_pos (by omega)] at h
      simp only [Nat.add_zero, Option.map_eq_some_iff] at h
      obtain ⟨e0, h1, h2⟩ := h
      exact ⟨hj, e0, h1, h2.symm⟩
    · rw [if_neg (by omega)] at h; cases h
  have I0 : Inv w own w β0 ok (hget (initHeap 0 es)) := by
    refine ⟨Fr.refl w own, hok, ?_, ?_, ?_, ?_, ?_, ?_⟩
    · intro j u hj
      obtain ⟨h1, h2⟩ := hβ0' j u hj
      have h3 := hdom _ _ h2
      rw [hget_initHeap, if_pos (by omega), Nat.add_zero, List.getElem?_eq_getElem h3]
      exact ⟨_, rfl⟩
    · intro j e hj
      obtain ⟨h1, e0, h2, rfl⟩ := hlook j e hj
      refine (hes _ e0 h2).2.2.ren (fun i _ u hu => hβ0 i u hu) fun u hu => ?_
      have := hβ0 _ u hu
      rwa [show parBase + (j - parBase) = j by omega] at this
    · intro j e hj _
      obtain ⟨h1, e0, h2, rfl⟩ := hlook j e hj
      rw [live_ren (q' := e0.w)]
      exact (hes _ e0 h2).2.1
    · intro j e u g hj _ hu hg
      obtain ⟨_, h2⟩ := hβ0' j u hu
      exact ⟨hnok _ u g h2 hg, .inl ⟨_, u, h2, hg⟩⟩
    · intro j e u g hj hw
      obtain ⟨h1, e0, h2, rfl⟩ := hlook j e hj
      simp only at hw
      rw [(hes _ e0 h2).1] at hw
      cases hw
    · intro i e u j e' u' g hij _ _ _ _ hu hu' hg hg'
      obtain ⟨h1, h2⟩ := hβ0' i u hu
      obtain ⟨h3, h4⟩ := hβ0' j u' hu'
      exact hsep _ _ u u' g (by omega) h2 h4 hg hg'
  have hvr := hv.renAll (g := (parBase + ·)) (β2 := β0) hβ0
  have S0 : Sim π w own w { tmps := vals.toArray ++ Array.replicate (fn.ntmps - vals.toArray.size) undef, defers := [] } (initSt args es fn.ntmps) β0 ok := by
    refine ⟨I0, fun t => ?_, ?_, rfl, fun _ _ _ h => h, fun _ h => .inl h⟩
    · have h1 : (initSt args es fn.ntmps).tv t = ((args.map (renTV (parBase + ·))) ++ List.replicate (fn.ntmps - args.length) (TV.tup [])).getD t (TV.lf .undef) := by
        simp [St.tv, initSt, initTmps]
      rw [h1]
      have hlen := hv.length
      simp only [Array.getD_eq_getD_getElem?, Array.getElem?_append, List.size_toArray, List.getD, List.getElem?_append, List.length_map]
      by_cases ht : t < vals.length
      · rw [if_pos ht, if_pos (by omega)]
        have := hvr.get (i := t)
        simpa [List.getD, ht, show t < args.length by omega] using this
      · rw [if_neg ht, if_neg (by omega), hlen, Array.getElem?_replicate, List.getElem?_replicate]
        by_cases ht2 : t - args.length < fn.ntmps - args.length
        · rw [if_pos ht2, if_pos ht2]; exact ⟨[], rfl, trivial⟩
        · rw [if_neg ht2, if_neg ht2]; trivial
    · simp [initSt, initTmps, hv.length]
  have hfin : ∀ e a' w' σ β' ok', (e = .ret ∨ e = .normal) → Sim π w own w' a' σ β' ok' → RetOK P fn es.length plan r (.ret σ) →
      bodyPost P fn (fun e w' => ∃ v β' ok', e = .returned v ∧ CallPost w β ok es.length r v w' β' ok') e a' w' := by
    rintro e a' w' σ1 β1 ok1 he S1 ⟨σ, hweak, r', hout, hval, hents, hfresh⟩
    obtain ⟨β2, ok2, S⟩ := weaken_weak hweak π w own w' a' β1 ok1 S1
    have I := S.inv
    unfold outOf at hout
    split at hout
    case h_2 => cases hout
    rename_i v ps hres hps
    simp only at hout
    split at hout
    case h_1 => cases hout
    rename_i fs hfs
    split at hout
    case isFalse => cases hout
    rename_i hc
    obtain ⟨hnd, hroots, hfids, hflat⟩ := hc
    cases hout
    generalize hids : (closeIds (hget σ.heap) 3 (addIds (tvIds v ++ ps.flatMap fun e => ebIds e.b) [])).filter (fun j => decide (j < parBase)) = ids at *
    have hidlt : ∀ j ∈ ids, j < parBase := fun j hj => by
      rw [← hids] at hj
      simpa using (List.mem_filter.1 hj).2
    obtain ⟨hpl, hpsp⟩ := parEnts_spec (Nat.le_refl _) hps
    obtain ⟨hfl, hfsp⟩ := freshEnts_spec hfs
    obtain ⟨u, hrun, hrep⟩ := results_run S hres
    -- what may be named outside
    let β3 : Nat → Option Value := fun j => if ids.contains j || inPar es.length j then β2 j else none
    have hsub : ∀ j, (ids.contains j || inPar es.length j) = true → ∀ x, β2 j = some x → β3 j = some x := fun j hj x hx => by
      show (if _ then β2 j else none) = some x
      rw [if_pos hj]; exact hx
    let βF : Nat → Option Value := fun k => if k < es.length then β k else (ids[k - es.length]?).bind β2
    have hpar : ∀ j x, parBase ≤ j → β2 j = some x → β (j - parBase) = some x := fun j x hj hx => (hβ0' j x (S.pin j x hj hx)).2
    have hto : ∀ j x, β3 j = some x → βF (outId es.length ids j) = some x := fun j x hj => by
      have hj' : (if ids.contains j || inPar es.length j then β2 j else none) = some x := hj
      split at hj'
      · rename_i hc
        show (if outId es.length ids j < es.length then β (outId es.length ids j) else (ids[outId es.length ids j - es.length]?).bind β2) = some x
        unfold outId
        by_cases hp : parBase ≤ j
        · have h1 := hpar j x hp hj'
          rw [if_pos hp, if_pos (hdom _ _ h1)]
          exact h1
        · have hm : j ∈ ids := by
            simp only [Bool.or_eq_true, inPar, Bool.and_eq_true, decide_eq_true_eq] at hc
            rcases hc with hc | hc
            · simpa using hc
            · exact absurd hc.1 hp
          rw [if_neg hp, if_neg (by omega), show es.length + idxOf ids j - es.length = idxOf ids j by omega, idxOf_get hm]
          exact hj'
      · cases hj'
    -- the by-reference blocks are where they were, and nobody reads there
    have hparent : ∀ k u', β k = some u' → ∃ e, hget σ.heap (parBase + k) = some e ∧ e.w = true ∧ e.live = true ∧ β2 (parBase + k) = some u' := fun k u' hk => by
      obtain ⟨e, h1, h2, h3, h4⟩ := hpsp k (hdom k u' hk)
      rw [show parBase + (es.length - es.length + k) = parBase + k by omega] at h1
      have hR := I.ent _ e h1
      have : ∃ x, β2 (parBase + k) = some x := by
        obtain ⟨ew, eb⟩ := e
        cases eb with
        | dead => cases h4
        | cells ls => obtain ⟨g, cs, et, h5, _⟩ := hR; exact ⟨_, h5⟩
        | arr et t xs => obtain ⟨x, us, h5, _⟩ := hR; exact ⟨_, h5⟩
      obtain ⟨x, hx⟩ := this
      have h6 := hpar _ x (by omega) hx
      rw [Nat.add_sub_cancel_left, hk] at h6
      cases h6
      exact ⟨e, h1, h3, h4, hx⟩
    have hown : ∀ b, own b → ¬ ok2 b := by
      rintro b ⟨k, u', hk, hg⟩ hb
      obtain ⟨e, h1, h2, h3, h4⟩ := hparent k u' hk
      exact (I.wr _ e u' b h1 h2 h4 hg).1 hb
    let okF : Nat → Prop := fun b => ok2 b ∧ (r.shares = true ∨ w.heap.size ≤ b)
    -- leaving blocks out of sight
    have hokV : ∀ {x t}, (r.shares = true ∨ flatTV t = true) → RepV w' ok2 β3 x t → RepV w' okF β3 x t := fun hsh h => by
      rcases hsh with h1 | h1
      · exact h.mono (fun _ _ => rfl) (fun b hb => ⟨hb, .inl h1⟩) (fun _ _ h => h)
      · exact h.okflat h1
    have hokE : ∀ {id b}, (r.shares = true ∨ flatEB b = true) → EntRep w' ok2 β3 id b → EntRep w' okF β3 id b := fun hsh h => by
      rcases hsh with h1 | h1
      · exact h.mono (fun _ _ => rfl) (fun b hb => ⟨hb, .inl h1⟩) (fun _ _ h => h) (fun _ _ _ _ => rfl)
      · exact h.okflat h1
    have hflat' : r.shares = true ∨ (flatTV v = true ∧ (∀ e ∈ ps, flatEB e.b = true) ∧ ∀ e ∈ fs, flatEB e.b = true) := by
      rcases hflat with h1 | h1
      · exact .inl h1
      · simp only [Bool.and_eq_true, List.all_eq_true] at h1
        exact .inr ⟨h1.1.1, h1.1.2, h1.2⟩
    have hrootm : ∀ j ∈ tvIds v ++ ps.flatMap (fun e => ebIds e.b), (ids.contains j || inPar es.length j) = true := fun j hj => List.all_eq_true.1 hroots j hj
    have C : CallPost w β ok es.length r u w' βF okF := by
      refine ⟨I.fr.os, I.fr.tape, I.fr.output, I.fr.size, ?_, ?_, ?_, ?_, ?_, ?_, ?_, ?_, ?_, ?_, ?_⟩
      · intro b hb hn
        exact I.fr.block b hb fun ⟨k, u', hk, hg⟩ => hn k u' (hdom k u' hk) hk hg
      · rintro b ⟨hb, hsh⟩
        rcases S.okB b hb with h1 | h1 | h1
        · rcases hsh with h2 | h2
          · exact .inl ⟨h2, h1⟩
          · exact .inr ⟨h2, I.okLt b hb⟩
        · exact absurd hb (hown b h1)
        · exact .inr ⟨h1, I.okLt b hb⟩
      · intro k x hk hx
        show (if k < es.length then β k else _) = some x
        rw [if_pos hk]; exact hx
      · intro k x hx
        have hx' : (if k < es.length then β k else (ids[k - es.length]?).bind β2) = some x := hx
        rw [← hfresh]
        simp only [List.length_map, hfl]
        by_cases hk : k < es.length
        · omega
        · rw [if_neg hk] at hx'
          simp only [Option.bind_eq_some_iff] at hx'
          obtain ⟨id, h1, _⟩ := hx'
          have := (List.getElem?_eq_some_iff.1 h1).1
          omega
      · intro k x hk hx
        have hx' : (if k < es.length then β k else _) = some x := hx
        rwa [if_pos hk] at hx'
      · rw [← hval]
        refine RepV.ren hto (hokV (hflat'.imp id And.left) (hrep.sub fun j hj => hsub j (hrootm j (List.mem_append_left _ hj))))
      · rw [← hents]
        simpa using hpl
      · intro k e he
        rw [← hents] at he
        simp only [List.getElem?_map, Option.map_eq_some_iff] at he
        obtain ⟨e0, h1, rfl⟩ := he
        have hk : k < es.length := by rw [← hpl]; exact (List.getElem?_eq_some_iff.1 h1).1
        obtain ⟨e1, h2, h3, h4, h5⟩ := hpsp k hk
        rw [h1] at h3
        cases h3
        rw [show parBase + (es.length - es.length + k) = parBase + k by omega] at h2
        refine ⟨by rw [live_ren (q' := e0.w), h5]; exact h4, ?_⟩
        have hmem := List.mem_of_getElem? h1
        have hin : inPar es.length (parBase + k) = true := by simp [inPar, hk]
        refine (hokE (hflat'.imp id fun h => h.2.1 e0 hmem) ((I.ent _ e0 h2).sub (fun j hj => hsub j (hrootm j (List.mem_append_right _ (List.mem_flatMap.2 ⟨e0, hmem, hj⟩)))) (hsub _ (by rw [hin, Bool.or_true])))).ren (fun j _ => hto j) fun x hx => ?_
        have := hto _ x hx
        unfold outId at this
        rwa [if_pos (by omega), Nat.add_sub_cancel_left] at this
      · intro j e he
        rw [← hfresh] at he
        simp only [List.getElem?_map, Option.map_eq_some_iff] at he
        obtain ⟨e0, h1, rfl⟩ := he
        have hj : j < ids.length := by rw [← hfl]; exact (List.getElem?_eq_some_iff.1 h1).1
        have hid := List.getElem?_eq_getElem hj
        obtain ⟨e1, h2, h3, h4, h5⟩ := hfsp j _ hid
        rw [h1] at h3
        cases h3
        refine ⟨h4, by rw [live_ren (q' := e0.w)]; exact h5, ?_⟩
        have hmem := List.mem_of_getElem? h1
        have hmid := List.getElem_mem hj
        have hfj : ∀ i ∈ ebIds e0.b, (ids.contains i || inPar es.length i) = true := fun i hi => List.all_eq_true.1 (List.all_eq_true.1 hfids e0 hmem) i hi
        refine (hokE (hflat'.imp id fun h => h.2.2 e0 hmem) ((I.ent _ e0 h2).sub (fun i hi => hsub i (hfj i hi)) (hsub _ (by simp [hmid])))).ren (fun i _ => hto i) fun x hx => ?_
        have := hto _ x hx
        unfold outId at this
        rw [if_neg (by have := hidlt _ hmid; omega)] at this
        have hix : idxOf ids ids[j] = j := nodup_get hnd (idxOf_get hmid) hid
        rwa [hix] at this
      · intro j x g hj hx hg
        rw [← hfresh] at hj
        simp only [List.length_map, hfl] at hj
        have hx' : (if es.length + j < es.length then β (es.length + j) else (ids[es.length + j - es.length]?).bind β2) = some x := hx
        rw [if_neg (by omega), Nat.add_sub_cancel_left, List.getElem?_eq_getElem hj] at hx'
        obtain ⟨e1, h2, h3, h4, h5⟩ := hfsp j _ (List.getElem?_eq_getElem hj)
        have hwr := I.wr _ e1 x g h2 h4 hx' hg
        refine ⟨?_, fun h => hwr.1 h.1⟩
        rcases hwr.2 with ⟨k, u', hk, hg'⟩ | h6
        · obtain ⟨e, k1, k2, k3, k4⟩ := hparent k u' hk
          exfalso
          refine I.sep ids[j] e1 x (parBase + k) e u' g ?_ h2 k1 h4 k3 hx' k4 hg hg'
          have := hidlt _ (List.getElem_mem hj)
          omega
        · exact h6
      · intro i j x x' g hi hj hij hx hx' hg hg'
        rw [← hfresh] at hi hj
        simp only [List.length_map, hfl] at hi hj
        have hx1 : (if es.length + i < es.length then β (es.length + i) else (ids[es.length + i - es.length]?).bind β2) = some x := hx
        have hx2 : (if es.length + j < es.length then β (es.length + j) else (ids[es.length + j - es.length]?).bind β2) = some x' := hx'
        rw [if_neg (by omega), Nat.add_sub_cancel_left, List.getElem?_eq_getElem hi] at hx1
        rw [if_neg (by omega), Nat.add_sub_cancel_left, List.getElem?_eq_getElem hj] at hx2
        obtain ⟨e1, h2, h3, h4, h5⟩ := hfsp i _ (List.getElem?_eq_getElem hi)
        obtain ⟨e2, k2, k3, k4, k5⟩ := hfsp j _ (List.getElem?_eq_getElem hj)
        exact I.sep ids[i] e1 x ids[j] e2 x' g (fun e => hij (nodup_get hnd (List.getElem?_eq_getElem hi) (e ▸ List.getElem?_eq_getElem hj))) h2 k2 h4 k5 hx1 hx2 hg hg'
    rcases he with rfl | rfl
    · exact ⟨S.def0, u, hrun, u, βF, okF, rfl, C⟩
    · exact ⟨S.def0, u, hrun, u, βF, okF, rfl, C⟩
  refine calls_of_wp hf hb (wp_mono (evCode_sound hm hT c 0 _ _ _ w β0 ok hr hl S0 hs) ?_)
  rintro e a' w' ⟨ev, β', ok', hK, hev⟩
  cases ev with
  | norm σ => obtain ⟨rfl, S'⟩ := hev; exact hfin _ a' w' σ β' ok' (.inr rfl) S' hK
  | ret σ => obtain ⟨rfl, S'⟩ := hev; exact hfin _ a' w' σ β' ok' (.inl rfl) S' hK
  | exit id σ => exact hK.elim
end

end Go.Proofs.Ytlfdidaeachpoaa

/- Functions: how a way through a function is read, how a loop is told, tables. -/
namespace Go.Proofs.Ytlfdidaeachpoaa
open Go Go.RowKit

/-! ### Numbers that are kept within their kind -/
theorem wrap_i64 (n : Int) : IntKind.i64.wrap n = (n + 9223372036854775808) % 18446744073709551616 - 9223372036854775808 := by
  unfold IntKind.wrap
  have h1 : (2 : Int) ^ IntKind.i64.bits = 18446744073709551616 := rfl
  have h2 : IntKind.i64.signed = true := rfl
  have h3 : (2 : Int) ^ (IntKind.i64.bits - 1) = 9223372036854775808 := rfl
  simp only [h1, h2, h3]
  try simp only [Bool.true_and, decide_eq_true_eq]
  split <;> omega
theorem wrap_u64 (n : Int) : IntKind.u64.wrap n = n % 18446744073709551616 := by
  unfold IntKind.wrap
  have h1 : (2 : Int) ^ IntKind.u64.bits = 18446744073709551616 := rfl
  have h2 : IntKind.u64.signed = false := rfl
  simp only [h1, h2]
  simp
theorem wrap_u32 (n : Int) : IntKind.u32.wrap n = n % 4294967296 := by
  unfold IntKind.wrap
  have h1 : (2 : Int) ^ IntKind.u32.bits = 4294967296 := rfl
  have h2 : IntKind.u32.signed = false := rfl
  simp only [h1, h2]
  simp
theorem i64_in {n : Int} (h : -9223372036854775808 ≤ n ∧ n ≤ 9223372036854775807) : IntKind.i64.wrap n = n := by rw [wrap_i64]; omega
theorem u64_in {n : Int} (h : 0 ≤ n ∧ n < 18446744073709551616) : IntKind.u64.wrap n = n := by rw [wrap_u64]; omega
theorem u32_in {n : Int} (h : 0 ≤ n ∧ n < 4294967296) : IntKind.u32.wrap n = n := by rw [wrap_u32]; omega

/-! ### States of which little is told -/
def lookT : List Nat → List TV → Nat → TV
  | t :: ts, v :: vs, i => if t = i then v else lookT ts vs i
  | _, _, _ => .lf .undef

def spTmps (ts : List Nat) (vs : List TV) : Nat → Nat → List TV
  | 0, _ => []
  | n + 1, i => lookT ts vs i :: spTmps ts vs n (i + 1)

/-- The state in which these temporaries hold these values. -/
def spSt (len : Nat) (ts : List Nat) (vs : List TV) (hp : List (Nat × Ent)) : St := ⟨spTmps ts vs len 0, hp⟩

theorem spTmps_length (ts : List Nat) (vs : List TV) : ∀ n i, (spTmps ts vs n i).length = n
  | 0, _ => rfl
  | n + 1, i => by simp [spTmps, spTmps_length ts vs n]

theorem spTmps_get (ts : List Nat) (vs : List TV) : ∀ n i t, (spTmps ts vs n i).getD t (.lf .undef) = if t < n then lookT ts vs (i + t) else .lf .undef
  | 0, _, t => by simp [spTmps]
  | n + 1, i, 0 => by simp [spTmps]
  | n + 1, i, t + 1 => by
    have := spTmps_get ts vs n (i + 1) t
    simp only [spTmps, List.getD_cons_succ]
    rw [this, show i + 1 + t = i + (t + 1) by omega]
    by_cases h : t < n
    · rw [if_pos h, if_pos (by omega)]
    · rw [if_neg h, if_neg (by omega)]

theorem lookT_map (f : Nat → TV) : ∀ (ts : List Nat) (i : Nat), lookT ts (ts.map f) i = if ts.contains i then f i else .lf .undef
  | [], i => by simp [lookT]
  | t :: ts, i => by
    simp only [List.map_cons, lookT]
    by_cases h : t = i
    · subst h
      simp
    · rw [if_neg h, lookT_map f ts i]
      simp only [List.contains_cons]
      have : (i == t) = false := by simpa using fun e => h e.symm
      rw [this, Bool.false_or]

/-- What a state tells, by a plan. -/
def seeSt (plan : List WOp) (ts : List Nat) (len : Nat) (σ : St) : Option (List TV × List (Nat × Ent)) :=
  match weaken plan σ with
  | some σ' => if σ'.tmps.length = len then
      (if (ts.all fun t => (tvIds (σ'.tv t)).all fun id => σ'.heap.any fun x => x.1 == id) = true then some (ts.map σ'.tv, σ'.heap) else none)
    else none
  | none => none

theorem seeSt_weak {plan : List WOp} {ts : List Nat} {len : Nat} {σ : St} {vs : List TV} {hp : List (Nat × Ent)} (h : seeSt plan ts len σ = some (vs, hp)) : Weak σ (spSt len ts vs hp) := by
  unfold seeSt at h
  split at h
  · rename_i σ' hσ
    split at h
    · rename_i hl
      split at h
      · cases h
        refine (weaken_weak hσ).trans fun π w0 own w a β ok S => ⟨β, ok, ?_⟩
        refine ⟨S.inv, fun t => ?_, ?_, S.def0, S.pin, S.okB⟩
        · show RepV w ok β _ ((spTmps ts (ts.map σ'.tv) len 0).getD t (.lf .undef))
          rw [spTmps_get]
          split
          · rw [Nat.zero_add, lookT_map]
            split
            · exact S.tmps t
            · trivial
          · trivial
        · rw [S.size, hl]
          exact (spTmps_length ..).symm
      · cases h
    · cases h
  · cases h

/-! ### Ways, read -/
inductive PE where
  | norm (vs : List TV) (hp : List (Nat × Ent))
  | exit (id : Nat) (vs : List TV) (hp : List (Nat × Ent))
  | ret (vs : List TV) (hp : List (Nat × Ent))
  | out (r : CallRes)

inductive PT where
  | leaf (e : PE)
  | ite (c : Bool) (a b : PT)
  | req (c : Bool) (t : PT)
  | may (c : Bool) (a b : PT)
  | fail

def PT.sat : PT → (PE → Prop) → Prop
  | .leaf e, K => K e
  | .ite c a b, K => (c = true → a.sat K) ∧ (c = false → b.sat K)
  | .req c t, K => c = true ∧ t.sat K
  | .may c a b, K => (c = true → a.sat K) ∧ b.sat K
  | .fail, _ => False

/-- So many conditions that hold. -/
def PT.rq : Nat → PT → PT
  | 0, t => t
  | n + 1, t => .req true (PT.rq n t)

theorem PT.sat_rq {K : PE → Prop} : ∀ {n : Nat} {t : PT}, (PT.rq n t).sat K ↔ t.sat K
  | 0, _ => Iff.rfl
  | n + 1, t => by
    show (true = true ∧ (PT.rq n t).sat K) ↔ _
    rw [PT.sat_rq (n := n)]
    simp

theorem PT.sat_req {K : PE → Prop} {c : Bool} {t : PT} : (PT.req c t).sat K ↔ c = true ∧ t.sat K := Iff.rfl
theorem PT.sat_ite {K : PE → Prop} {c : Bool} {a b : PT} : (PT.ite c a b).sat K ↔ (c = true → a.sat K) ∧ (c = false → b.sat K) := Iff.rfl
theorem PT.sat_may {K : PE → Prop} {c : Bool} {a b : PT} : (PT.may c a b).sat K ↔ (c = true → a.sat K) ∧ b.sat K := Iff.rfl
theorem PT.sat_leaf {K : PE → Prop} {e : PE} : (PT.leaf e).sat K ↔ K e := Iff.rfl

def Tree.pt (f : Ev → Option PE) : Tree → PT
  | .leaf e => match f e with
    | some p => .leaf p
    | none => .fail
  | .ite c a b => .ite c (a.pt f) (b.pt f)
  | .req c t => .req c (t.pt f)
  | .may c a b => .may c (a.pt f) (b.pt f)
  | .fail => .fail

theorem Tree.sat_pt {f : Ev → Option PE} {K : PE → Prop} {K' : Ev → Prop} (h : ∀ e p, f e = some p → K p → K' e) : ∀ {t : Tree}, (t.pt f).sat K → t.sat K'
  | .leaf e, hs => by
    unfold Tree.pt at hs
    split at hs
    · rename_i p hp
      exact h e p hp hs
    · exact hs.elim
  | .ite _ _ _, hs => ⟨fun hc => Tree.sat_pt h (hs.1 hc), fun hc => Tree.sat_pt h (hs.2 hc)⟩
  | .req _ _, hs => ⟨hs.1, Tree.sat_pt h hs.2⟩
  | .may _ _ _, hs => ⟨fun hc => Tree.sat_pt h (hs.1 hc), Tree.sat_pt h hs.2⟩
  | .fail, hs => hs.elim

/-- What is kept of a state, and how. -/
structure Cut where
  plan : List WOp
  ts : List Nat

/-- A round of a loop: what is kept behind a round, on leaving it, on returning out of it. -/
def seeEv (len : Nat) (cn cx cr : Cut) : Ev → Option PE
  | .norm σ => (seeSt cn.plan cn.ts len σ).map fun x => .norm x.1 x.2
  | .exit id σ => (seeSt cx.plan cx.ts len σ).map fun x => .exit id x.1 x.2
  | .ret σ => (seeSt cr.plan cr.ts len σ).map fun x => .ret x.1 x.2

def outEv (P : Program) (fn : Func) (n : Nat) (plan : List WOp) (shares : Bool) : Ev → Option PE
  | .ret σ => ((weaken plan σ).bind (outOf P fn n shares)).map .out
  | .norm σ => ((weaken plan σ).bind (outOf P fn n shares)).map .out
  | .exit _ _ => none

theorem out_sat {P : Program} {fn : Func} {n : Nat} {plan : List WOp} {r : CallRes} {t : Tree}
    (h : (t.pt (outEv P fn n plan r.shares)).sat fun | .out r' => r'.val = r.val ∧ r'.ents = r.ents ∧ r'.fresh = r.fresh | _ => False) : t.sat (RetOK P fn n plan r) := by
  refine Tree.sat_pt (fun e p he hp => ?_) h
  cases e with
  | ret σ =>
    obtain ⟨r', h1, rfl⟩ := Option.map_eq_some_iff.1 he
    obtain ⟨σ', h2, h3⟩ := Option.bind_eq_some_iff.1 h1
    exact ⟨σ', h2, r', h3, hp⟩
  | norm σ =>
    obtain ⟨r', h1, rfl⟩ := Option.map_eq_some_iff.1 he
    obtain ⟨σ', h2, h3⟩ := Option.bind_eq_some_iff.1 h1
    exact ⟨σ', h2, r', h3, hp⟩
  | exit id σ => cases he

/-! ### Loops -/
/-- The one event tells less than the other. -/
def EvWeak : Ev → Ev → Prop
  | .norm σ, .norm σ' => Weak σ σ'
  | .ret σ, .ret σ' => Weak σ σ'
  | .exit id σ, .exit id' σ' => id = id' ∧ Weak σ σ'
  | _, _ => False

theorem OutOK.weak {π : Pin} {w0 : World} {own : Nat → Prop} {K : Ev → Prop} {e : Exit} {a : Act} {w : World} (h : OutOK π w0 own (fun e => ∃ e', EvWeak e e' ∧ K e') e a w) : OutOK π w0 own K e a w := by
  obtain ⟨ev, β, ok, ⟨ev', hw, hK⟩, hev⟩ := h
  cases ev <;> cases ev' <;> simp only [EvWeak] at hw <;> try exact hw.elim
  · obtain ⟨he, S⟩ := hev
    obtain ⟨β', ok', S'⟩ := hw _ _ _ _ _ _ _ S
    exact ⟨_, β', ok', hK, he, S'⟩
  · obtain ⟨he, S⟩ := hev
    obtain ⟨β', ok', S'⟩ := hw _ _ _ _ _ _ _ S
    exact ⟨_, β', ok', hK, he, S'⟩
  · obtain ⟨he, S⟩ := hev
    obtain ⟨rfl, hw⟩ := hw
    obtain ⟨β', ok', S'⟩ := hw _ _ _ _ _ _ _ S
    exact ⟨_, β', ok', hK, he, S'⟩

theorem loop_see {P : Program} {T : CallT} {L : Told} (hm : P.follows .mixedOrders = true) (hT : SoundT P T) {α : Type} {b len : Nat} {body : Code} {ch cx cr : Cut} (mk : α → List TV × List (Nat × Ent)) (I : α → Prop) (μ : α → Nat) (ans : α → Tree)
    (hr : ∀ x ∈ regsOf body, RegOK P L x) (hl : ∀ x ∈ loopsOf b body, LoopOK P L x) (dec : List TV → List (Nat × Ent) → Option Tree)
    (hL : ∀ σ, L.loop b σ = match seeSt ch.plan ch.ts len σ with | some x => dec x.1 x.2 | none => none)
    (hdec : ∀ vs hp t, dec vs hp = some t → ∀ K, t.sat K → ∃ x, mk x = (vs, hp) ∧ I x ∧ (ans x).sat K)
    (round : ∀ x, I x → ∀ K, (ans x).sat K → ((evCode P T L b body (spSt len ch.ts (mk x).1 (mk x).2)).pt (seeEv len ch cx cr)).sat fun
      | .norm vs hp => ∃ x', mk x' = (vs, hp) ∧ I x' ∧ μ x' < μ x ∧ (ans x').sat K
      | .exit id vs hp => K (.exit id (spSt len cx.ts vs hp))
      | .ret vs hp => K (.ret (spSt len cr.ts vs hp))
      | .out _ => False) : LoopOK P L (b, body) := by
  intro π w0 own σ t K a w β ok ht hK S
  simp only at ht
  rw [hL] at ht
  split at ht
  · rename_i x hx
    obtain ⟨vs, hp⟩ := x
    obtain ⟨x, hmk, hI, hans⟩ := hdec vs hp t ht K hK
    obtain ⟨β', ok', S'⟩ := seeSt_weak hx _ _ _ _ _ _ _ S
    have hS : Sim π w0 own w a (spSt len ch.ts (mk x).1 (mk x).2) β' ok' := by rw [hmk]; exact S'
    refine wp_mono (loop_rule (P := P) (T := T) (L := L) hm hT (b := b) (fun x => spSt len ch.ts (mk x).1 (mk x).2) I μ (fun x K => ∃ K0 : Ev → Prop, (∀ e, (∃ e', EvWeak e e' ∧ K0 e') → K e) ∧ (ans x).sat K0) hr hl
      (fun x hI K ⟨K0, hK0, hans⟩ => ?_) x hI (fun e => ∃ e', EvWeak e e' ∧ K e') ⟨K, fun _ h => h, hans⟩ π w0 own a w β' ok' hS) fun e a' w' h => h.weak
    refine Tree.sat_pt (fun e p he hp => ?_) (round x hI K0 hans)
    cases e with
    | norm σ1 =>
      obtain ⟨⟨vs1, hp1⟩, h1, rfl⟩ := Option.map_eq_some_iff.1 he
      obtain ⟨x', h2, h3, h4, h5⟩ := hp
      exact ⟨x', _, seeSt_weak h1, by rw [h2], h3, h4, K0, hK0, h5⟩
    | exit id σ1 =>
      obtain ⟨⟨vs1, hp1⟩, h1, rfl⟩ := Option.map_eq_some_iff.1 he
      exact hK0 _ ⟨.exit id _, ⟨rfl, seeSt_weak h1⟩, hp⟩
    | ret σ1 =>
      obtain ⟨⟨vs1, hp1⟩, h1, rfl⟩ := Option.map_eq_some_iff.1 he
      exact hK0 _ ⟨.ret _, seeSt_weak h1, hp⟩
  · cases ht

/-! ### Tables -/
structure Entry where
  f : Nat
  ans : List TV → List Ent → Option CallRes

def Entry.ok (P : Program) (e : Entry) : Prop := ∀ args es r, e.ans args es = some r → r.vc = true → Enters P e.f ∧ CallOK P e.f args es r

theorem CallOK.den {P : Program} {f : Nat} {args : List TV} {es : List Ent} {r : CallRes} (tss : List (List Ty)) (h : CallOK P f (denTVs tss args) es r) : CallOK P f args es r :=
  fun w vals β ok h1 h2 => h w vals β ok h1 (denTVs_rep h2)

/-- An entry whose parameters are data of these types. -/
def Entry.data (f : Nat) (tss : List (List Ty)) (ans : List TV → List Ent → Option CallRes) : Entry := ⟨f, fun args es => ans (denTVs tss args) es⟩

theorem Entry.data_ok {P : Program} {f : Nat} {tss : List (List Ty)} {ans : List TV → List Ent → Option CallRes} (h : Entry.ok P ⟨f, ans⟩) : (Entry.data f tss ans).ok P := fun args es r h1 h2 =>
  have h3 := h (denTVs tss args) es r h1 h2
  ⟨h3.1, h3.2.den tss⟩

def tab : List Entry → CallT
  | [], _, _, _ => none
  | e :: l, f, args, es => if e.f = f then e.ans args es else tab l f args es

theorem tab_sound {P : Program} : ∀ {l : List Entry}, All (Entry.ok P) l → SoundT P (tab l)
  | [], _, f, args, es, r, h, _ => by cases h
  | e :: l, hl, f, args, es, r, h, hv => by
    unfold tab at h
    split at h
    · rename_i he
      subst he
      exact hl.1 args es r h hv
    · exact tab_sound hl.2 f args es r h hv

/-- Loops are told, regions are not. -/
def loopsTold (l : Nat → St → Option Tree) : Told := ⟨fun _ _ => none, l⟩
def noLoops : Told := loopsTold fun _ _ => none

theorem regs_told {P : Program} {l : Nat → St → Option Tree} {c : Code} : ∀ x ∈ regsOf c, RegOK P (loopsTold l) x := by
  intro x _ π w0 own σ t K a w β ok h
  cases h

/-- The loops of a piece of code. -/
def lp (b : Nat) (c : Code) (k : Nat) : Nat × Code := (loopsOf b c).getD k (0, .skip)

theorem loops_told {P : Program} {L : Told} {b : Nat} {c : Code} (n : Nat) (hn : (loopsOf b c).length = n) (h : ∀ k, k < n → LoopOK P L (lp b c k)) : ∀ x ∈ loopsOf b c, LoopOK P L x := by
  intro x hx
  obtain ⟨k, hk, rfl⟩ := List.mem_iff_getElem.1 hx
  have := h k (by omega)
  unfold lp at this
  rw [List.getD, List.getElem?_eq_getElem hk] at this
  exact this

theorem loops_told0 {P : Program} {L : Told} {b : Nat} {c : Code} (hn : (loopsOf b c).length = 0) : ∀ x ∈ loopsOf b c, LoopOK P L x := loops_told 0 hn fun k hk => absurd hk (Nat.not_lt_zero k)
theorem loops_told1 {P : Program} {L : Told} {b : Nat} {c : Code} (hn : (loopsOf b c).length = 1) (h0 : LoopOK P L (lp b c 0)) : ∀ x ∈ loopsOf b c, LoopOK P L x := loops_told 1 hn fun k hk => by
  obtain rfl : k = 0 := by omega
  exact h0
theorem loops_told2 {P : Program} {L : Told} {b : Nat} {c : Code} (hn : (loopsOf b c).length = 2) (h0 : LoopOK P L (lp b c 0)) (h1 : LoopOK P L (lp b c 1)) : ∀ x ∈ loopsOf b c, LoopOK P L x := loops_told 2 hn fun k hk => by
  have : k = 0 ∨ k = 1 := by omega
  rcases this with rfl | rfl
  · exact h0
  · exact h1

abbrev nilD (α : Type) : List α := []

def codeOf (fn : Func) : Code := fn.body.getD .skip

/-- The answer of a function that is held against its way through. -/
theorem entry_ok {P : Program} {T : CallT} (hm : P.follows .mixedOrders = true) (hT : SoundT P T) {L : Told} {f : Nat} {fn : Func} (hf : P.funcs[f]? = some fn) (hb : fn.body.isSome = true) (hn : (fn.name == "runtime.NumGoroutine") = false)
    (hr : ∀ x ∈ regsOf (codeOf fn), RegOK P L x) (hl : ∀ x ∈ loopsOf 0 (codeOf fn), LoopOK P L x) {args : List TV} {es : List Ent} {r : CallRes} (plan : List WOp)
    (hs : ((evFn P T L fn (codeOf fn) args es).pt (outEv P fn es.length plan r.shares)).sat fun | .out r' => r'.val = r.val ∧ r'.ents = r.ents ∧ r'.fresh = r.fresh | _ => False) : Enters P f ∧ CallOK P f args es r := by
  refine ⟨⟨fn, hf, hb, hn⟩, fnSound hm hT (c := codeOf fn) hf ?_ hr hl plan (out_sat hs)⟩
  unfold codeOf
  cases h : fn.body with
  | none => rw [h] at hb; cases hb
  | some c => rfl

end Go.Proofs.Ytlfdidaeachpoaa

/- Functions as plain functions: what the evaluator tells of a function, as a tree over plain data; loops with a number of rounds. -/
namespace Go.Proofs.Ytlfdidaeachpoaa
open Go Go.RowKit

/-- What comes of a piece of code, over plain data: once more, or done. -/
inductive RT (α R : Type) : Type 1 where
  | again (x : α)
  | done (r : R)
  | ite (c : Bool) (a b : RT α R)
  | req (c : Bool) (t : RT α R)
  | may (c : Bool) (a b : RT α R)
  | rq (n : Nat) (t : RT α R)
  /-- what a call (or a loop) tells, if it tells anything -/
  | call {γ : Type} (o : Option γ) (d : γ) (f : γ → RT α R)
  | fail

def RT.pt {α R : Type} (f : α → PE) (g : R → PE) : RT α R → PT
  | .again x => .leaf (f x)
  | .done r => .leaf (g r)
  | .ite c a b => .ite c (a.pt f g) (b.pt f g)
  | .req c t => .req c (t.pt f g)
  | .may c a b => .may c (a.pt f g) (b.pt f g)
  | .rq n t => .rq n (t.pt f g)
  | .call o d h => .req o.isSome ((h (o.getD d)).pt f g)
  | .fail => .fail

open Classical in
noncomputable def bothR {R : Type} (x y : Option R) : Option R := if x = y then y else none

noncomputable def RT.run {α R : Type} (again : α → Option R) : RT α R → Option R
  | .again x => again x
  | .done r => some r
  | .ite c a b => if c = true then a.run again else b.run again
  | .req c t => if c = true then t.run again else none
  | .may c a b => if c = true then bothR (a.run again) (b.run again) else b.run again
  | .rq _ t => t.run again
  | .call o _ h => o.bind fun v => (h v).run again
  | .fail => none

theorem RT.sat {α R : Type} {f : α → PE} {g : R → PE} {again : α → Option R} {r : R} {K : PE → Prop} (ha : ∀ x, again x = some r → K (f x)) (hg : K (g r)) :
    ∀ {t : RT α R}, t.run again = some r → (t.pt f g).sat K
  | .again x, h => ha x h
  | .done r', h => by cases h; exact hg
  | .ite c a b, h => ⟨fun hc => RT.sat ha hg (t := a) (by simpa [RT.run, hc] using h), fun hc => RT.sat ha hg (t := b) (by simpa [RT.run, hc] using h)⟩
  | .req c t, h => by
    unfold RT.run at h
    split at h
    · rename_i hc; exact ⟨hc, RT.sat ha hg h⟩
    · cases h
  | .may c a b, h => by
    unfold RT.run at h
    split at h
    · rename_i hc
      unfold bothR at h
      split at h
      · rename_i e
        exact ⟨fun _ => RT.sat ha hg (t := a) (e.trans h), RT.sat ha hg (t := b) h⟩
      · cases h
    · rename_i hc
      exact ⟨fun h' => absurd h' hc, RT.sat ha hg (t := b) h⟩
  | .rq n t, h => PT.sat_rq.2 (RT.sat ha hg (t := t) h)
  | .call o d f', h => by
    obtain ⟨v, hv, h'⟩ := Option.bind_eq_some_iff.1 h
    subst hv
    exact ⟨rfl, RT.sat ha hg (t := f' v) h'⟩
  | .fail, h => by cases h

/-- So many rounds at the most. -/
def loopN {α R : Type} (f : (α → Option R) → α → Option R) : Nat → α → Option R
  | 0, _ => none
  | k + 1, x => f (loopN f k) x

theorem loopN_succ {α R : Type} (f : (α → Option R) → α → Option R) (k : Nat) (x : α) : loopN f (k + 1) x = f (loopN f k) x := rfl

/-- How a loop ends. -/
inductive LR (α β : Type) where
  | ex (x : α)
  | rt (y : β)

instance {α β : Type} [Inhabited α] : Inhabited (LR α β) := ⟨.ex default⟩

def LR.isRt {α β : Type} : LR α β → Bool
  | .ex _ => false
  | .rt _ => true

def LR.getX {α β : Type} [Inhabited α] : LR α β → α
  | .ex x => x
  | .rt _ => default

def LR.getR {α β : Type} [Inhabited β] : LR α β → β
  | .ex _ => default
  | .rt y => y

/-- A loop's answer for the tree. -/
def loopAns {R : Type} [Inhabited R] (o : Option R) (ans : R → Tree) : Tree := .req o.isSome (ans (o.getD default))

/-- What holds of a loop's end. -/
def atEnd (len : Nat) (cx cr : Cut) (K : Ev → Prop) : PE → Prop
  | .exit id vs hp => K (.exit id (spSt len cx.ts vs hp))
  | .ret vs hp => K (.ret (spSt len cr.ts vs hp))
  | _ => False

theorem loop_lift {P : Program} {T : CallT} {L : Told} (hm : P.follows .mixedOrders = true) (hT : SoundT P T) {ι α R : Type} [Inhabited R] {b len : Nat} {body : Code} {ch cx cr : Cut}
    (mk : ι → α → List TV × List (Nat × Ent)) (ev : ι → R → PE) (ans : ι → R → Tree) (bt : ι → α → RT α R) (N : Nat)
    (pt : List TV → List (Nat × Ent) → Option (ι × α)) (hpt : ∀ vs hp x, pt vs hp = some x → mk x.1 x.2 = (vs, hp))
    (hans : ∀ i r K, (ans i r).sat K → atEnd len cx cr K (ev i r))
    (hr : ∀ x ∈ regsOf body, RegOK P L x) (hl : ∀ x ∈ loopsOf b body, LoopOK P L x)
    (hL : ∀ σ, L.loop b σ = match seeSt ch.plan ch.ts len σ with
      | some y => (match pt y.1 y.2 with
        | some x => some (loopAns (loopN (fun rec z => (bt x.1 z).run rec) N x.2) (ans x.1))
        | none => none)
      | none => none)
    (round : ∀ i x, (evCode P T L b body (spSt len ch.ts (mk i x).1 (mk i x).2)).pt (seeEv len ch cx cr) = (bt i x).pt (fun x' => .norm (mk i x').1 (mk i x').2) (ev i)) : LoopOK P L (b, body) := by
  refine loop_see hm hT (α := (ι × α) × Nat × R) (ch := ch) (cx := cx) (cr := cr) (fun x => mk x.1.1 x.1.2) (fun x => loopN (fun rec z => (bt x.1.1 z).run rec) x.2.1 x.1.2 = some x.2.2) (fun x => x.2.1) (fun x => ans x.1.1 x.2.2) hr hl
    (fun vs hp => match pt vs hp with
      | some x => some (loopAns (loopN (fun rec z => (bt x.1 z).run rec) N x.2) (ans x.1))
      | none => none) hL ?_ ?_
  · intro vs hp t h K hK
    split at h
    · rename_i x hx
      cases h
      obtain ⟨h1, h2⟩ := hK
      obtain ⟨r, hr⟩ := Option.isSome_iff_exists.1 h1
      rw [hr] at h2
      exact ⟨(x, N, r), hpt vs hp x hx, hr, h2⟩
    · cases h
  · rintro ⟨⟨i, x⟩, k, r⟩ hI K hK
    simp only at hI hK ⊢
    cases k with
    | zero => cases hI
    | succ k =>
      rw [round]
      refine RT.sat (r := r) (again := loopN (fun rec z => (bt i z).run rec) k) (fun x' hx' => ?_) ?_ hI
      · exact ⟨((i, x'), k, r), rfl, hx', Nat.lt_succ_self k, hK⟩
      · have := hans i r K hK
        cases h : ev i r with
        | norm vs hp => rw [h] at this; exact this.elim
        | exit id vs hp => rw [h] at this; exact this
        | ret vs hp => rw [h] at this; exact this
        | out r => rw [h] at this; exact this.elim

/-- A function, by its tree over plain data. -/
theorem fn_lift {P : Program} {T : CallT} (hm : P.follows .mixedOrders = true) (hT : SoundT P T) {L : Told} {f : Nat} {fn : Func} (hf : P.funcs[f]? = some fn) (hb : fn.body.isSome = true) (hn : (fn.name == "runtime.NumGoroutine") = false)
    (hr : ∀ x ∈ regsOf (codeOf fn), RegOK P L x) (hl : ∀ x ∈ loopsOf 0 (codeOf fn), LoopOK P L x) {args : List TV} {es : List Ent} {β : Type} (res : β → CallRes) (plan : List WOp) (shares : Bool) (hsh : ∀ y, (res y).shares = shares)
    (t : RT Unit β) (ht : (evFn P T L fn (codeOf fn) args es).pt (outEv P fn es.length plan shares) = t.pt (fun _ => .norm [] []) (fun y => .out (res y))) {y : β} (hy : t.run (fun _ => none) = some y) : Enters P f ∧ CallOK P f args es (res y) := by
  refine entry_ok hm hT hf hb hn hr hl plan ?_
  rw [hsh, ht]
  exact RT.sat (r := y) (again := fun _ => none) (fun _ h => by cases h) ⟨rfl, rfl, rfl⟩ hy

/-- An entry's answer: what a plain function tells. -/
def callAns {β : Type} [Inhabited β] (o : Option β) (res : β → CallRes) : CallRes := { res (o.getD default) with vc := o.isSome }

theorem CallOK.vc {P : Program} {f : Nat} {args : List TV} {es : List Ent} {r : CallRes} {c : Bool} (h : CallOK P f args es r) : CallOK P f args es { r with vc := c } := by
  intro w vals β ok h1 h2 h3 h4 h5 h6
  refine Calls.mono (h w vals β ok h1 h2 h3 h4 h5 h6) ?_
  rintro e w' ⟨v, β', ok', h7, h8⟩
  exact ⟨v, β', ok', h7, ⟨h8.os, h8.tape, h8.output, h8.size, h8.block, h8.okNew, h8.same, h8.dom, h8.old, h8.rep, h8.len, h8.ents, h8.fresh, h8.place, h8.apart⟩⟩

theorem callAns_ok {P : Program} {f : Nat} {args : List TV} {es : List Ent} {β : Type} [Inhabited β] {o : Option β} {res : β → CallRes} (h : ∀ y, o = some y → Enters P f ∧ CallOK P f args es (res y)) (hv : (callAns o res).vc = true) :
    Enters P f ∧ CallOK P f args es (callAns o res) := by
  obtain ⟨y, hy⟩ := Option.isSome_iff_exists.1 (show o.isSome = true from hv)
  obtain ⟨h1, h2⟩ := h y hy
  refine ⟨h1, ?_⟩
  have : callAns o res = { res y with vc := true } := by unfold callAns; rw [hy]; rfl
  rw [this]
  exact h2.vc

theorem loops_told3 {P : Program} {L : Told} {b : Nat} {c : Code} (hn : (loopsOf b c).length = 3) (h0 : LoopOK P L (lp b c 0)) (h1 : LoopOK P L (lp b c 1)) (h2 : LoopOK P L (lp b c 2)) : ∀ x ∈ loopsOf b c, LoopOK P L x := loops_told 3 hn fun k hk => by
  have : k = 0 ∨ k = 1 ∨ k = 2 := by omega
  rcases this with rfl | rfl | rfl <;> assumption
theorem loops_told4 {P : Program} {L : Told} {b : Nat} {c : Code} (hn : (loopsOf b c).length = 4) (h0 : LoopOK P L (lp b c 0)) (h1 : LoopOK P L (lp b c 1)) (h2 : LoopOK P L (lp b c 2)) (h3 : LoopOK P L (lp b c 3)) : ∀ x ∈ loopsOf b c, LoopOK P L x := loops_told 4 hn fun k hk => by
  have : k = 0 ∨ k = 1 ∨ k = 2 ∨ k = 3 := by omega
  rcases this with rfl | rfl | rfl | rfl <;> assumption
theorem loops_told5 {P : Program} {L : Told} {b : Nat} {c : Code} (hn : (loopsOf b c).length = 5) (h0 : LoopOK P L (lp b c 0)) (h1 : LoopOK P L (lp b c 1)) (h2 : LoopOK P L (lp b c 2)) (h3 : LoopOK P L (lp b c 3)) (h4 : LoopOK P L (lp b c 4)) : ∀ x ∈ loopsOf b c, LoopOK P L x := loops_told 5 hn fun k hk => by
  have : k = 0 ∨ k = 1 ∨ k = 2 ∨ k = 3 ∨ k = 4 := by omega
  rcases this with rfl | rfl | rfl | rfl | rfl <;> assumption

end Go.Proofs.Ytlfdidaeachpoaa

/- The seat's numbers (written by wip/tools/gen_sn.py). -/
namespace Go.Proofs.Ytlfdidaeachpoaa
open Go
noncomputable abbrev pg : Program := Try.prog
theorem pg_mixed : pg.follows .mixedOrders = true := by kernel_rfl
abbrev n_law50_MergeLists : Nat := 3
noncomputable abbrev f_law50_MergeLists : Func := Try.f3
abbrev n_law50_MergeCounts : Nat := 4
noncomputable abbrev f_law50_MergeCounts : Func := Try.f4
abbrev n_law21_ScaleBrings : Nat := 5
noncomputable abbrev f_law21_ScaleBrings : Func := Try.f5
abbrev n_law19_CarryKeeps : Nat := 6
noncomputable abbrev f_law19_CarryKeeps : Func := Try.f6
abbrev n_law50_alive : Nat := 7
noncomputable abbrev f_law50_alive : Func := Try.f7
abbrev n_R50_Count : Nat := 8
noncomputable abbrev f_R50_Count : Func := Try.f8
abbrev n_merge_All : Nat := 9
noncomputable abbrev f_merge_All : Func := Try.f9
abbrev n_merge_Merge : Nat := 10
noncomputable abbrev f_merge_Merge : Func := Try.f10
abbrev n_R46_Ops : Nat := 11
noncomputable abbrev f_R46_Ops : Func := Try.f11
abbrev n_R50_Merge : Nat := 12
noncomputable abbrev f_R50_Merge : Func := Try.f12
abbrev n_merge_Is : Nat := 13
noncomputable abbrev f_merge_Is : Func := Try.f13
abbrev n_R50_Is : Nat := 14
noncomputable abbrev f_R50_Is : Func := Try.f14
abbrev n_R50_All : Nat := 15
noncomputable abbrev f_R50_All : Func := Try.f15
abbrev n_merge_Count : Nat := 16
noncomputable abbrev f_merge_Count : Func := Try.f16
abbrev n_law21_alive : Nat := 17
noncomputable abbrev f_law21_alive : Func := Try.f17
abbrev n_R04_Right : Nat := 18
noncomputable abbrev f_R04_Right : Func := Try.f18
abbrev n_R04_In : Nat := 19
noncomputable abbrev f_R04_In : Func := Try.f19
abbrev n_scale_Bring : Nat := 20
noncomputable abbrev f_scale_Bring : Func := Try.f20
abbrev n_R21_Bring : Nat := 21
noncomputable abbrev f_R21_Bring : Func := Try.f21
abbrev n_law21_same : Nat := 22
noncomputable abbrev f_law21_same : Func := Try.f22
abbrev n_scale_Fits : Nat := 23
noncomputable abbrev f_scale_Fits : Func := Try.f23
abbrev n_R14_Small : Nat := 24
noncomputable abbrev f_R14_Small : Func := Try.f24
abbrev n_R17_Light : Nat := 25
noncomputable abbrev f_R17_Light : Func := Try.f25
abbrev n_R14_Fine : Nat := 26
noncomputable abbrev f_R14_Fine : Func := Try.f26
abbrev n_law19_alive : Nat := 27
noncomputable abbrev f_law19_alive : Func := Try.f27
abbrev n_R04_Same : Nat := 28
noncomputable abbrev f_R04_Same : Func := Try.f28
abbrev n_carry_Total : Nat := 29
noncomputable abbrev f_carry_Total : Func := Try.f29
abbrev n_R04_Int : Nat := 30
noncomputable abbrev f_R04_Int : Func := Try.f30
abbrev n_R17_Amount : Nat := 31
noncomputable abbrev f_R17_Amount : Func := Try.f31
abbrev n_carry_All : Nat := 32
noncomputable abbrev f_carry_All : Func := Try.f32
abbrev n_R16_Next : Nat := 33
noncomputable abbrev f_R16_Next : Func := Try.f33
abbrev n_ratio_Cmp : Nat := 34
noncomputable abbrev f_ratio_Cmp : Func := Try.f34
abbrev n_R01_Of : Nat := 35
noncomputable abbrev f_R01_Of : Func := Try.f35
abbrev n_R01_Add : Nat := 36
noncomputable abbrev f_R01_Add : Func := Try.f36
abbrev n_R01_Word : Nat := 37
noncomputable abbrev f_R01_Word : Func := Try.f37
abbrev n_merge_All_1 : Nat := 38
noncomputable abbrev f_merge_All_1 : Func := Try.f38
abbrev n_slices_Clone_api_Op_api_Op : Nat := 39
noncomputable abbrev f_slices_Clone_api_Op_api_Op : Func := Try.f39
abbrev n_wide_Full : Nat := 40
noncomputable abbrev f_wide_Full : Func := Try.f40
abbrev n_wide_Div : Nat := 41
noncomputable abbrev f_wide_Div : Func := Try.f41
abbrev n_wide_Fits : Nat := 42
noncomputable abbrev f_wide_Fits : Func := Try.f42
abbrev n_R04_Out : Nat := 43
noncomputable abbrev f_R04_Out : Func := Try.f43
abbrev n_R04_Of : Nat := 44
noncomputable abbrev f_R04_Of : Func := Try.f44
abbrev n_R07_Words : Nat := 45
noncomputable abbrev f_R07_Words : Func := Try.f45
abbrev n_R03_Same : Nat := 46
noncomputable abbrev f_R03_Same : Func := Try.f46
abbrev n_R03_Out : Nat := 47
noncomputable abbrev f_R03_Out : Func := Try.f47
abbrev n_R01_Cmp : Nat := 48
noncomputable abbrev f_R01_Cmp : Func := Try.f48
abbrev n_R03_Gcd : Nat := 49
noncomputable abbrev f_R03_Gcd : Func := Try.f49
abbrev n_R03_In : Nat := 50
noncomputable abbrev f_R03_In : Func := Try.f50
abbrev n_ratio_Common : Nat := 51
noncomputable abbrev f_ratio_Common : Func := Try.f51
abbrev n_nat_Word : Nat := 52
noncomputable abbrev f_nat_Word : Func := Try.f52
abbrev n_span_Total : Nat := 53
noncomputable abbrev f_span_Total : Func := Try.f53
abbrev n_R04_Lcm : Nat := 54
noncomputable abbrev f_R04_Lcm : Func := Try.f54
abbrev n_R04_Up : Nat := 55
noncomputable abbrev f_R04_Up : Func := Try.f55
abbrev n_R14_tickets : Nat := 56
noncomputable abbrev f_R14_tickets : Func := Try.f56
abbrev n_R14_threads : Nat := 57
noncomputable abbrev f_R14_threads : Func := Try.f57
abbrev n_R14_locks : Nat := 58
noncomputable abbrev f_R14_locks : Func := Try.f58
abbrev n_R14_queue : Nat := 59
noncomputable abbrev f_R14_queue : Func := Try.f59
abbrev n_R13_Ring : Nat := 60
noncomputable abbrev f_R13_Ring : Func := Try.f60
abbrev n_R14_CoinArrows : Nat := 61
noncomputable abbrev f_R14_CoinArrows : Func := Try.f61
abbrev n_R14_ThreadArrows : Nat := 62
noncomputable abbrev f_R14_ThreadArrows : Func := Try.f62
abbrev n_law19_share : Nat := 63
noncomputable abbrev f_law19_share : Func := Try.f63
abbrev n_carry_At : Nat := 64
noncomputable abbrev f_carry_At : Func := Try.f64
abbrev n_ratio_Zero : Nat := 65
noncomputable abbrev f_ratio_Zero : Func := Try.f65
abbrev n_carry_Ends : Nat := 66
noncomputable abbrev f_carry_Ends : Func := Try.f66
abbrev n_ratio_Add : Nat := 67
noncomputable abbrev f_ratio_Add : Func := Try.f67
abbrev n_R17_Counts : Nat := 68
noncomputable abbrev f_R17_Counts : Func := Try.f68
abbrev n_worth_Threads : Nat := 69
noncomputable abbrev f_worth_Threads : Func := Try.f69
abbrev n_chain_Tail : Nat := 70
noncomputable abbrev f_chain_Tail : Func := Try.f70
abbrev n_nat_Cmp : Nat := 71
noncomputable abbrev f_nat_Cmp : Func := Try.f71
abbrev n_nat_Mul : Nat := 72
noncomputable abbrev f_nat_Mul : Func := Try.f72
abbrev n_R01_digit : Nat := 73
noncomputable abbrev f_R01_digit : Func := Try.f73
abbrev n_R01_Cut : Nat := 74
noncomputable abbrev f_R01_Cut : Func := Try.f74
abbrev n_wide_bit : Nat := 75
noncomputable abbrev f_wide_bit : Func := Try.f75
abbrev n_R04_Low : Nat := 76
noncomputable abbrev f_R04_Low : Func := Try.f76
abbrev n_R01_Div : Nat := 77
noncomputable abbrev f_R01_Div : Func := Try.f77
abbrev n_nat_Of : Nat := 78
noncomputable abbrev f_nat_Of : Func := Try.f78
abbrev n_nat_Lcm : Nat := 79
noncomputable abbrev f_nat_Lcm : Func := Try.f79
abbrev n_nat_Div : Nat := 80
noncomputable abbrev f_nat_Div : Func := Try.f80
abbrev n_nat_Bits : Nat := 81
noncomputable abbrev f_nat_Bits : Func := Try.f81
abbrev n_nat_at : Nat := 82
noncomputable abbrev f_nat_at : Func := Try.f82
abbrev n_span_Spans : Nat := 83
noncomputable abbrev f_span_Spans : Func := Try.f83
abbrev n_R03_Lcm : Nat := 84
noncomputable abbrev f_R03_Lcm : Func := Try.f84
abbrev n_R01_Mul : Nat := 85
noncomputable abbrev f_R01_Mul : Func := Try.f85
abbrev n_R14_Thread : Nat := 86
noncomputable abbrev f_R14_Thread : Func := Try.f86
abbrev n_R14_Coin : Nat := 87
noncomputable abbrev f_R14_Coin : Func := Try.f87
abbrev n_R14_Lock : Nat := 88
noncomputable abbrev f_R14_Lock : Func := Try.f88
abbrev n_R14_Is : Nat := 89
noncomputable abbrev f_R14_Is : Func := Try.f89
abbrev n_R14_Queues : Nat := 90
noncomputable abbrev f_R14_Queues : Func := Try.f90
abbrev n_R13_Reach : Nat := 91
noncomputable abbrev f_R13_Reach : Func := Try.f91
abbrev n_state_Thread : Nat := 92
noncomputable abbrev f_state_Thread : Func := Try.f92
abbrev n_ratio_plus : Nat := 93
noncomputable abbrev f_ratio_plus : Func := Try.f93
abbrev n_R16_Lives : Nat := 94
noncomputable abbrev f_R16_Lives : Func := Try.f94
abbrev n_worth_Tickets : Nat := 95
noncomputable abbrev f_worth_Tickets : Func := Try.f95
abbrev n_chain_Next : Nat := 96
noncomputable abbrev f_chain_Next : Func := Try.f96
abbrev n_cmp_Compare_uint32 : Nat := 97
noncomputable abbrev f_cmp_Compare_uint32 : Func := Try.f97
abbrev n_nat_times : Nat := 98
noncomputable abbrev f_nat_times : Func := Try.f98
abbrev n_R01_Sub : Nat := 99
noncomputable abbrev f_R01_Sub : Func := Try.f99
abbrev n_nat_Cut : Nat := 100
noncomputable abbrev f_nat_Cut : Func := Try.f100
abbrev n_nat_Gcd : Nat := 101
noncomputable abbrev f_nat_Gcd : Func := Try.f101
abbrev n_nat_short : Nat := 102
noncomputable abbrev f_nat_short : Func := Try.f102
abbrev n_math_bits_LeadingZeros32 : Nat := 103
noncomputable abbrev f_math_bits_LeadingZeros32 : Func := Try.f103
abbrev n_nat_shifted : Nat := 104
noncomputable abbrev f_nat_shifted : Func := Try.f104
abbrev n_nat_guess : Nat := 105
noncomputable abbrev f_nat_guess : Func := Try.f105
abbrev n_nat_away : Nat := 106
noncomputable abbrev f_nat_away : Func := Try.f106
abbrev n_nat_back : Nat := 107
noncomputable abbrev f_nat_back : Func := Try.f107
abbrev n_nat_down : Nat := 108
noncomputable abbrev f_nat_down : Func := Try.f108
abbrev n_math_bits_Len32 : Nat := 109
noncomputable abbrev f_math_bits_Len32 : Func := Try.f109
abbrev n_wide_Add : Nat := 110
noncomputable abbrev f_wide_Add : Func := Try.f110
abbrev n_state_get_api_Thread : Nat := 111
noncomputable abbrev f_state_get_api_Thread : Func := Try.f111
abbrev n_state_threadUsed : Nat := 112
noncomputable abbrev f_state_threadUsed : Func := Try.f112
abbrev n_ratio_Make : Nat := 113
noncomputable abbrev f_ratio_Make : Func := Try.f113
abbrev n_nat_Add : Nat := 114
noncomputable abbrev f_nat_Add : Func := Try.f114
abbrev n_R16_End : Nat := 115
noncomputable abbrev f_R16_End : Func := Try.f115
abbrev n_worth_reckon : Nat := 116
noncomputable abbrev f_worth_reckon : Func := Try.f116
abbrev n_state_Lock : Nat := 117
noncomputable abbrev f_state_Lock : Func := Try.f117
abbrev n_cmp_isNaN_uint32 : Nat := 118
noncomputable abbrev f_cmp_isNaN_uint32 : Func := Try.f118
abbrev n_slices_Clone_api_Nat_uint32 : Nat := 119
noncomputable abbrev f_slices_Clone_api_Nat_uint32 : Func := Try.f119
abbrev n_nat_plus : Nat := 120
noncomputable abbrev f_nat_plus : Func := Try.f120
abbrev n_R16_Tail : Nat := 121
noncomputable abbrev f_R16_Tail : Func := Try.f121
abbrev n_live_Tickets : Nat := 122
noncomputable abbrev f_live_Tickets : Func := Try.f122
abbrev n_live_Amounts : Nat := 123
noncomputable abbrev f_live_Amounts : Func := Try.f123
abbrev n_ratio_Of : Nat := 124
noncomputable abbrev f_ratio_Of : Func := Try.f124
abbrev n_fund_Order : Nat := 125
noncomputable abbrev f_fund_Order : Func := Try.f125
abbrev n_fund_Issued : Nat := 126
noncomputable abbrev f_fund_Issued : Func := Try.f126
abbrev n_ratio_Mul : Nat := 127
noncomputable abbrev f_ratio_Mul : Func := Try.f127
abbrev n_state_get_api_Lock : Nat := 128
noncomputable abbrev f_state_get_api_Lock : Func := Try.f128
abbrev n_state_lockUsed : Nat := 129
noncomputable abbrev f_state_lockUsed : Func := Try.f129
abbrev n_live_reckon : Nat := 130
noncomputable abbrev f_live_reckon : Func := Try.f130
abbrev n_dag_Order : Nat := 131
noncomputable abbrev f_dag_Order : Func := Try.f131
abbrev n_state_CoinArrows : Nat := 132
noncomputable abbrev f_state_CoinArrows : Func := Try.f132
abbrev n_slices_DeleteFunc_int_int : Nat := 133
noncomputable abbrev f_slices_DeleteFunc_int_int : Func := Try.f133
abbrev n_fund_Order_1 : Nat := 134
noncomputable abbrev f_fund_Order_1 : Func := Try.f134
abbrev n_fund_which : Nat := 135
noncomputable abbrev f_fund_which : Func := Try.f135
abbrev n_fund_Issued_1 : Nat := 136
noncomputable abbrev f_fund_Issued_1 : Func := Try.f136
abbrev n_ratio_one : Nat := 137
noncomputable abbrev f_ratio_one : Func := Try.f137
abbrev n_live_Threads : Nat := 138
noncomputable abbrev f_live_Threads : Func := Try.f138
abbrev n_slices_Backward_int_int : Nat := 139
noncomputable abbrev f_slices_Backward_int_int : Func := Try.f139
abbrev n_dag_heads : Nat := 140
noncomputable abbrev f_dag_heads : Func := Try.f140
abbrev n_slices_Index_int_int : Nat := 141
noncomputable abbrev f_slices_Index_int_int : Func := Try.f141
abbrev n_slices_IndexFunc_int_int : Nat := 142
noncomputable abbrev f_slices_IndexFunc_int_int : Func := Try.f142
abbrev n_chain_Lives : Nat := 143
noncomputable abbrev f_chain_Lives : Func := Try.f143
abbrev n_slices_Backward_int_int_1 : Nat := 144
noncomputable abbrev f_slices_Backward_int_int_1 : Func := Try.f144
abbrev n_chain_End : Nat := 145
noncomputable abbrev f_chain_End : Func := Try.f145
@[match_pattern] abbrev tNat : TypeId := 41
@[match_pattern] abbrev tU32 : TypeId := 90
@[match_pattern] abbrev tInt : TypeId := 3
@[match_pattern] abbrev tNats : TypeId := 95
@[match_pattern] abbrev tRatio : TypeId := 43
@[match_pattern] abbrev tRatios : TypeId := 38
@[match_pattern] abbrev tN16 : TypeId := 47
@[match_pattern] abbrev tQ : TypeId := 49
@[match_pattern] abbrev tQs : TypeId := 39
@[match_pattern] abbrev tInts : TypeId := 45
@[match_pattern] abbrev tU64 : TypeId := 25
@[match_pattern] abbrev tWide : TypeId := 82
@[match_pattern] abbrev tU64s : TypeId := 51
end Go.Proofs.Ytlfdidaeachpoaa

/- Digits, with no program in sight. -/
namespace Go.Proofs.Ytlfdidaeachpoaa

/-- The number of digits in base b, the lowest first. -/
def val (b : Nat) : List Int → Nat
  | [] => 0
  | d :: ds => d.toNat + b * val b ds

def wfd (b : Nat) (xs : List Int) : Bool := xs.all fun d => decide (0 ≤ d) && decide (d < b)

def dgo (b : Nat) : Nat → Nat → List Int
  | 0, _ => []
  | f + 1, n => if n = 0 then [] else ((n % b : Nat) : Int) :: dgo b f (n / b)

/-- The digits of a number, without noughts at the end. -/
def digs (b n : Nat) : List Int := dgo b n n

def cutN (xs : List Int) : Nat → Nat
  | 0 => 0
  | n + 1 => if xs.getD n 0 = 0 then cutN xs n else n + 1

/-- Without noughts at the end. -/
def cut (xs : List Int) : List Int := xs.take (cutN xs xs.length)

theorem cutN_le (xs : List Int) : ∀ n, cutN xs n ≤ n
  | 0 => Nat.le_refl _
  | n + 1 => by
    unfold cutN
    split
    · exact Nat.le_succ_of_le (cutN_le xs n)
    · exact Nat.le_refl _

theorem wfd_cons {b : Nat} {d : Int} {ds : List Int} : wfd b (d :: ds) = true ↔ (0 ≤ d ∧ d < b) ∧ wfd b ds = true := by
  simp [wfd]

theorem wfd_mem {b : Nat} {xs : List Int} : wfd b xs = true ↔ ∀ d ∈ xs, 0 ≤ d ∧ d < b := by
  simp [wfd]

theorem wfd_get {b : Nat} (hb : 0 < b) {xs : List Int} (h : wfd b xs = true) (i : Nat) : 0 ≤ xs.getD i 0 ∧ xs.getD i 0 < b := by
  rw [List.getD]
  cases hi : xs[i]? with
  | none => simp; omega
  | some d => exact wfd_mem.1 h d (List.mem_of_getElem? hi)

theorem wfd_append {b : Nat} {xs ys : List Int} : wfd b (xs ++ ys) = true ↔ wfd b xs = true ∧ wfd b ys = true := by
  simp [wfd, List.all_append]

theorem wfd_take {b n : Nat} {xs : List Int} (h : wfd b xs = true) : wfd b (xs.take n) = true :=
  wfd_mem.2 fun d hd => wfd_mem.1 h d (List.mem_of_mem_take hd)
theorem wfd_drop {b n : Nat} {xs : List Int} (h : wfd b xs = true) : wfd b (xs.drop n) = true :=
  wfd_mem.2 fun d hd => wfd_mem.1 h d (List.mem_of_mem_drop hd)
theorem wfd_set {b i : Nat} {d : Int} {xs : List Int} (h : wfd b xs = true) (hd : 0 ≤ d ∧ d < b) : wfd b (xs.set i d) = true :=
  wfd_mem.2 fun e he => by
    rcases List.mem_or_eq_of_mem_set he with h1 | rfl
    · exact wfd_mem.1 h e h1
    · exact hd
theorem wfd_replicate {b n : Nat} (hb : 0 < b) : wfd b (List.replicate n 0) = true :=
  wfd_mem.2 fun e he => by
    rw [List.mem_replicate] at he
    obtain ⟨_, rfl⟩ := he
    omega

theorem val_append (b : Nat) : ∀ (xs ys : List Int), val b (xs ++ ys) = val b xs + b ^ xs.length * val b ys
  | [], ys => by simp [val]
  | d :: xs, ys => by
    simp only [List.cons_append, val, val_append b xs ys, List.length_cons, Nat.pow_succ]
    rw [Nat.mul_add, Nat.add_assoc, Nat.mul_comm (b ^ xs.length) b, Nat.mul_assoc]

theorem val_replicate (b : Nat) : ∀ n, val b (List.replicate n 0) = 0
  | 0 => rfl
  | n + 1 => by simp [List.replicate_succ, val, val_replicate b n]

theorem val_lt {b : Nat} (hb : 0 < b) : ∀ {xs : List Int}, wfd b xs = true → val b xs < b ^ xs.length
  | [], _ => by simp [val]
  | d :: ds, h => by
    obtain ⟨hd, h⟩ := wfd_cons.1 h
    have := val_lt hb h
    simp only [val, List.length_cons, Nat.pow_succ]
    have h1 : d.toNat + 1 ≤ b := by omega
    have h2 : b * (val b ds + 1) ≤ b * b ^ ds.length := Nat.mul_le_mul_left _ this
    rw [Nat.mul_add] at h2
    rw [Nat.mul_comm (b ^ ds.length) b]
    omega

theorem val_take_drop (b : Nat) (xs : List Int) (n : Nat) (h : n ≤ xs.length) : val b xs = val b (xs.take n) + b ^ n * val b (xs.drop n) := by
  have := val_append b (xs.take n) (xs.drop n)
  rw [List.take_append_drop, List.length_take, Nat.min_eq_left h] at this
  exact this

theorem val_digit {b : Nat} (hb : 0 < b) : ∀ {xs : List Int} (i : Nat), wfd b xs = true → ((val b xs / b ^ i % b : Nat) : Int) = xs.getD i 0
  | [], i, _ => by simp [val]
  | d :: ds, 0, h => by
    obtain ⟨hd, h⟩ := wfd_cons.1 h
    simp only [val, Nat.pow_zero, Nat.div_one, Nat.add_mul_mod_self_left, List.getD_cons_zero]
    rw [Nat.mod_eq_of_lt (by omega)]
    omega
  | d :: ds, i + 1, h => by
    obtain ⟨hd, h⟩ := wfd_cons.1 h
    have := val_digit hb i h
    simp only [val, List.getD_cons_succ]
    rw [← this, Nat.pow_succ, Nat.mul_comm (b ^ i) b, ← Nat.div_div_eq_div_mul, Nat.add_mul_div_left _ _ hb, Nat.div_eq_of_lt (by omega : d.toNat < b), Nat.zero_add]

theorem dgo_val {b : Nat} (hb : 2 ≤ b) : ∀ (f n : Nat), n ≤ f → val b (dgo b f n) = n
  | 0, n, h => by
    have : n = 0 := by omega
    subst this
    rfl
  | f + 1, n, h => by
    unfold dgo
    split
    · rename_i h0
      subst h0
      rfl
    · rename_i h0
      have hlt : n / b < n := Nat.div_lt_self (by omega) hb
      simp only [val, Int.toNat_natCast, dgo_val hb f (n / b) (by omega)]
      exact Nat.mod_add_div n b

theorem val_digs {b : Nat} (hb : 2 ≤ b) (n : Nat) : val b (digs b n) = n := dgo_val hb n n (Nat.le_refl _)

theorem dgo_wf {b : Nat} (hb : 0 < b) : ∀ (f n : Nat), wfd b (dgo b f n) = true
  | 0, _ => rfl
  | f + 1, n => by
    unfold dgo
    split
    · rfl
    · rw [wfd_cons]
      have := Nat.mod_lt n hb
      exact ⟨⟨by omega, by omega⟩, dgo_wf hb f _⟩

theorem wfd_digs {b : Nat} (hb : 0 < b) (n : Nat) : wfd b (digs b n) = true := dgo_wf hb n n

theorem dgo_fuel {b : Nat} (hb : 2 ≤ b) : ∀ (f g n : Nat), n ≤ f → n ≤ g → dgo b f n = dgo b g n
  | 0, g, n, h, _ => by
    obtain rfl : n = 0 := by omega
    cases g <;> simp [dgo]
  | f + 1, 0, n, _, h => by
    obtain rfl : n = 0 := by omega
    simp [dgo]
  | f + 1, g + 1, n, h, h' => by
    unfold dgo
    split
    · rfl
    · have hlt : n / b < n := Nat.div_lt_self (by omega) hb
      rw [dgo_fuel hb f g (n / b) (by omega) (by omega)]

theorem digs_pos {b : Nat} (hb : 2 ≤ b) {n : Nat} (hn : 0 < n) : digs b n = ((n % b : Nat) : Int) :: digs b (n / b) := by
  obtain ⟨m, rfl⟩ : ∃ m, n = m + 1 := ⟨n - 1, by omega⟩
  have hlt : (m + 1) / b < m + 1 := Nat.div_lt_self (by omega) hb
  show dgo b (m + 1) (m + 1) = _
  unfold dgo
  rw [if_neg (by omega)]
  rw [dgo_fuel hb m ((m + 1) / b) ((m + 1) / b) (by omega) (Nat.le_refl _)]
  rfl

theorem digs_zero (b : Nat) : digs b 0 = [] := rfl

/-- A number's digits are known by their value, and by not ending with a nought. -/
theorem digs_val {b : Nat} (hb : 2 ≤ b) : ∀ {xs : List Int}, wfd b xs = true → (∀ h : xs ≠ [], xs.getLast h ≠ 0) → digs b (val b xs) = xs
  | [], _, _ => rfl
  | d :: ds, h, hl => by
    obtain ⟨hd, h⟩ := wfd_cons.1 h
    have ih : digs b (val b ds) = ds := digs_val hb h fun hne => by
      have := hl (by simp)
      rwa [List.getLast_cons hne] at this
    have hpos : 0 < val b (d :: ds) := by
      apply Nat.pos_of_ne_zero
      intro h0
      simp only [val] at h0
      have hd0 : d.toNat = 0 := by omega
      have hv0 : val b ds = 0 := by
        have : b * val b ds = 0 := by omega
        rcases Nat.mul_eq_zero.1 this with h1 | h1
        · omega
        · exact h1
      rw [hv0] at ih
      rw [digs_zero] at ih
      subst ih
      have := hl (by simp)
      simp at this
      omega
    rw [digs_pos hb hpos]
    simp only [val]
    rw [Nat.add_mul_mod_self_left, Nat.mod_eq_of_lt (by omega), Nat.add_mul_div_left _ _ (by omega), Nat.div_eq_of_lt (by omega : d.toNat < b), Nat.zero_add, ih]
    congr 1
    omega

theorem cutN_spec (xs : List Int) : ∀ n, n ≤ xs.length → (∀ i, cutN xs n ≤ i → i < n → xs.getD i 0 = 0) ∧ (∀ k, cutN xs n = k + 1 → xs.getD k 0 ≠ 0)
  | 0, _ => ⟨fun i _ h => absurd h (Nat.not_lt_zero i), fun k h => by cases h⟩
  | n + 1, hn => by
    unfold cutN
    split
    · rename_i h0
      obtain ⟨h1, h2⟩ := cutN_spec xs n (by omega)
      refine ⟨fun i hi hi' => ?_, h2⟩
      by_cases h : i = n
      · subst h; exact h0
      · exact h1 i hi (by omega)
    · rename_i h0
      refine ⟨fun i hi hi' => by omega, fun k hk => ?_⟩
      obtain rfl : n = k := by omega
      exact h0

theorem val_zero {b : Nat} : ∀ {xs : List Int}, (∀ i, i < xs.length → xs.getD i 0 = 0) → val b xs = 0
  | [], _ => rfl
  | d :: ds, h => by
    have h0 := h 0 (by simp)
    simp only [List.getD_cons_zero] at h0
    have := val_zero (b := b) (xs := ds) fun i hi => by
      have := h (i + 1) (by simpa using hi)
      simpa using this
    simp [val, this, h0]

theorem cut_val {b : Nat} (xs : List Int) : val b (cut xs) = val b xs := by
  have hle := cutN_le xs xs.length
  rw [val_take_drop b xs (cutN xs xs.length) hle]
  have : val b (xs.drop (cutN xs xs.length)) = 0 := val_zero fun i hi => by
    rw [List.length_drop] at hi
    have := (cutN_spec xs xs.length (Nat.le_refl _)).1 (cutN xs xs.length + i) (by omega) (by omega)
    simpa [List.getD, List.getElem?_drop] using this
  rw [this]
  rfl

theorem cut_wf {b : Nat} {xs : List Int} (h : wfd b xs = true) : wfd b (cut xs) = true := wfd_take h

theorem cut_last (xs : List Int) (h : cut xs ≠ []) : (cut xs).getLast h ≠ 0 := by
  have hle := cutN_le xs xs.length
  have hlen : (cut xs).length = cutN xs xs.length := by simp [cut, Nat.min_eq_left hle]
  have hpos : 0 < cutN xs xs.length := by
    rw [← hlen]
    exact List.length_pos_iff.2 h
  obtain ⟨k, hk⟩ : ∃ k, cutN xs xs.length = k + 1 := ⟨cutN xs xs.length - 1, by omega⟩
  have := (cutN_spec xs xs.length (Nat.le_refl _)).2 k hk
  rw [List.getLast_eq_getElem]
  have h2 : (cut xs)[(cut xs).length - 1]? = xs[k]? := by
    unfold cut
    rw [List.getElem?_take, hk]
    have : (List.take (k + 1) xs).length - 1 = k := by simp; omega
    rw [this, if_pos (by omega)]
  have h3 : (cut xs)[(cut xs).length - 1]? = some ((cut xs)[(cut xs).length - 1]'(by omega)) := List.getElem?_eq_getElem _
  intro h0
  rw [h0, h2] at h3
  rw [List.getD, h3] at this
  exact this rfl

theorem cut_eq {b : Nat} (hb : 2 ≤ b) {xs : List Int} (h : wfd b xs = true) : cut xs = digs b (val b xs) := by
  rw [← cut_val (b := b) xs]
  exact (digs_val hb (cut_wf h) (cut_last xs)).symm

end Go.Proofs.Ytlfdidaeachpoaa

/- Long addition, with no program in sight. -/
namespace Go.Proofs.Ytlfdidaeachpoaa

abbrev B32 : Nat := 4294967296

/-- A digit; 0 behind them. -/
def dig (xs : List Int) (i : Int) : Int := if i < xs.length then xs.getD i.toNat 0 else 0

theorem dig_nat (xs : List Int) (i : Nat) : dig xs i = xs.getD i 0 := by
  unfold dig
  split
  · simp
  · rename_i h
    rw [List.getD, List.getElem?_eq_none (by omega)]
    rfl

theorem dig_val {b : Nat} (hb : 0 < b) {xs : List Int} (h : wfd b xs = true) (i : Nat) : dig xs i = ((val b xs / b ^ i % b : Nat) : Int) := by
  rw [dig_nat, val_digit hb i h]

/-- The digits of a sum, so many of them from a place on. -/
def plusN (b : Nat) (xs ys : List Int) : Nat → Nat → Int → List Int
  | 0, _, _ => []
  | k + 1, i, o => (o + (dig xs i + dig ys i)) % b :: plusN b xs ys k (i + 1) ((o + (dig xs i + dig ys i)) / b)

theorem mod_step (b x k : Nat) : x % b ^ (k + 1) = x % b + b * (x / b % b ^ k) := by
  rw [Nat.pow_succ, Nat.mul_comm, Nat.mod_mul]

theorem plusN_val {b : Nat} (hb : 2 ≤ b) {xs ys : List Int} (hx : wfd b xs = true) (hy : wfd b ys = true) : ∀ (k i : Nat) (o : Int), 0 ≤ o →
    val b (plusN b xs ys k i o) = (o.toNat + val b xs / b ^ i + val b ys / b ^ i) % b ^ k
  | 0, _, _, _ => by simp [plusN, val, Nat.mod_one]
  | k + 1, i, o, ho => by
    have hx' := dig_val (by omega : 0 < b) hx i
    have hy' := dig_val (by omega : 0 < b) hy i
    generalize hX : val b xs / b ^ i = X at *
    generalize hY : val b ys / b ^ i = Y at *
    have e : o + (dig xs i + dig ys i) = ((o.toNat + (X % b + Y % b) : Nat) : Int) := by rw [hx', hy']; omega
    simp only [plusN, val]
    rw [plusN_val hb hx hy k (i + 1) _ (by rw [e]; exact Int.ediv_nonneg (by omega) (by omega)), e]
    rw [Nat.pow_succ, ← Nat.div_div_eq_div_mul, ← Nat.div_div_eq_div_mul, hX, hY, mod_step]
    have h1 : (((o.toNat + (X % b + Y % b) : Nat) : Int) % (b : Int)).toNat = (o.toNat + X + Y) % b := by
      rw [← Int.natCast_emod, Int.toNat_natCast]
      have hX2 := Nat.mod_add_div X b
      have hY2 := Nat.mod_add_div Y b
      have : o.toNat + X + Y = (o.toNat + (X % b + Y % b)) + b * (X / b + Y / b) := by rw [Nat.mul_add]; omega
      rw [this, Nat.add_mul_mod_self_left]
    have h2 : (((o.toNat + (X % b + Y % b) : Nat) : Int) / (b : Int)).toNat + X / b + Y / b = (o.toNat + X + Y) / b := by
      rw [← Int.natCast_ediv, Int.toNat_natCast]
      have hX2 := Nat.mod_add_div X b
      have hY2 := Nat.mod_add_div Y b
      have : o.toNat + X + Y = (o.toNat + (X % b + Y % b)) + b * (X / b + Y / b) := by rw [Nat.mul_add]; omega
      rw [this, Nat.add_mul_div_left _ _ (by omega)]
      omega
    rw [h1, h2]

theorem plusN_wf {b : Nat} (hb : 0 < b) (xs ys : List Int) : ∀ (k i : Nat) (o : Int), wfd b (plusN b xs ys k i o) = true
  | 0, _, _ => rfl
  | k + 1, i, o => wfd_cons.2 ⟨⟨Int.emod_nonneg _ (by omega), Int.emod_lt_of_pos _ (by omega)⟩, plusN_wf hb xs ys k _ _⟩

theorem plusN_sum {b : Nat} (hb : 2 ≤ b) {xs ys : List Int} (hx : wfd b xs = true) (hy : wfd b ys = true) {k : Nat} (h1 : xs.length < k) (h2 : ys.length < k) : val b (plusN b xs ys k 0 0) = val b xs + val b ys := by
  rw [plusN_val hb hx hy k 0 0 (Int.le_refl _)]
  simp only [Int.toNat_zero, Nat.pow_zero, Nat.div_one, Nat.zero_add]
  apply Nat.mod_eq_of_lt
  have a1 := val_lt (by omega : 0 < b) hx
  have a2 := val_lt (by omega : 0 < b) hy
  obtain ⟨j, rfl⟩ : ∃ j, k = j + 1 := ⟨k - 1, by omega⟩
  have b1 : b ^ xs.length ≤ b ^ j := Nat.pow_le_pow_right (by omega) (by omega)
  have b2 : b ^ ys.length ≤ b ^ j := Nat.pow_le_pow_right (by omega) (by omega)
  have : 2 * b ^ j ≤ b ^ (j + 1) := by rw [Nat.pow_succ, Nat.mul_comm]; exact Nat.mul_le_mul_left _ hb
  omega

end Go.Proofs.Ytlfdidaeachpoaa

/- Long numbers: cutting. -/
namespace Go.Proofs.Ytlfdidaeachpoaa
open Go Go.RowKit
set_option maxRecDepth 100000

abbrev D32 (xs : List Int) : TV := .lf (.dat (.int .u32) xs)
abbrev I64 (n : Int) : TV := .lf (.int .i64 n)
abbrev U32 (n : Int) : TV := .lf (.int .u32 n)
abbrev U64 (n : Int) : TV := .lf (.int .u64 n)

abbrev L32 : List Ty := [.sl (.int .u32)]
abbrev Row32 (xs : List Int) : Ent := ⟨true, .arr tU32 (.int .u32) xs⟩

/-! slices.Clone -/
def aClone32 : List TV → List Ent → Option CallRes
  | [.lf (.dat (.int .u32) xs)], [] => some ⟨decide (xs.length ≤ 2 ^ 40), .lf (.ref 0), [], [Row32 xs], false⟩
  | _, _ => none
def eClone32 : Entry := .data n_slices_Clone_api_Nat_uint32 [L32] aClone32

theorem clone32_nf (xs : List Int) : ((evFn pg (tab []) noLoops f_slices_Clone_api_Nat_uint32 (codeOf f_slices_Clone_api_Nat_uint32) [D32 xs] []).pt (outEv pg f_slices_Clone_api_Nat_uint32 0 [.nilRow 2 0 tU32 (.int .u32)] false)) =
    PT.rq (2 : Nat)
  (PT.may xs.isEmpty
    (PT.ite true
      (PT.rq (1 : Nat) (PT.leaf (PE.out { vc := true, val := TV.lf (Leaf.ref (0 : Nat)), fresh := [{ w := true, b := EB.arr (90 : Nat) (Ty.int IntKind.u32) (nilD (Ty.int IntKind.u32).den) }] })))
      (PT.rq (2 : Nat)
        (PT.req
          (decide (((List.replicate (0 : Nat) (0 : Int)).length + xs.length) * pg.bytesOf (90 : Nat) ≤ (140737488355328 : Nat)) &&
            decide ((List.replicate (0 : Nat) (0 : Int)).length + xs.length ≤ maxLen))
          (PT.rq (1 : Nat)
            (PT.leaf (PE.out { vc := true, val := TV.lf (Leaf.ref (0 : Nat)), fresh := [{ w := true, b := EB.arr (90 : Nat) (Ty.int IntKind.u32) (List.replicate (0 : Nat) (0 : Int) ++ xs) }] }))))))
    (PT.ite false
      (PT.rq (1 : Nat) (PT.leaf (PE.out { vc := true, val := TV.lf (Leaf.ref (0 : Nat)), fresh := [{ w := true, b := EB.arr (90 : Nat) (Ty.int IntKind.u32) (nilD (Ty.int IntKind.u32).den) }] })))
      (PT.rq (2 : Nat)
        (PT.req
          (decide (((List.replicate (0 : Nat) (0 : Int)).length + xs.length) * pg.bytesOf (90 : Nat) ≤ (140737488355328 : Nat)) &&
            decide ((List.replicate (0 : Nat) (0 : Int)).length + xs.length ≤ maxLen))
          (PT.rq (1 : Nat)
            (PT.leaf (PE.out { vc := true, val := TV.lf (Leaf.ref (0 : Nat)), fresh := [{ w := true, b := EB.arr (90 : Nat) (Ty.int IntKind.u32) (List.replicate (0 : Nat) (0 : Int) ++ xs) }] }))))))) := by kernel_rfl


theorem bytesU32 : pg.bytesOf tU32 = 4 := by kernel_rfl
theorem maxLen_eq : maxLen = 9223372036854775807 := by kernel_rfl

theorem clone32_ok : eClone32.ok pg := Entry.data_ok <| by
  intro args es r h hv
  unfold aClone32 at h
  simp only at h
  split at h
  · rename_i xs
    cases h
    simp only [decide_eq_true_eq] at hv
    refine entry_ok (fn := f_slices_Clone_api_Nat_uint32) pg_mixed (T := tab []) (tab_sound trivial) (L := noLoops) (by kernel_rfl) (by kernel_rfl) (by kernel_rfl) regs_told (loops_told0 (by kernel_rfl)) [.nilRow 2 0 tU32 (.int .u32)] ?_
    simp only [List.length_nil]
    rw [clone32_nf]
    simp [PT.sat, PT.sat_rq, bytesU32, maxLen_eq]
    omega
  · cases h

/-! nat.at -/


def aAt : List TV → List Ent → Option CallRes
  | [.lf (.dat (.int .u32) xs), .lf (.int .i64 i)], [] => some ⟨decide (0 ≤ i), .lf (.int .u32 (dig xs i)), [], [], false⟩
  | _, _ => none
def eAt : Entry := .data n_nat_at [L32, []] aAt

theorem at_nf (xs : List Int) (i : Int) : ((evFn pg (tab []) noLoops f_nat_at (codeOf f_nat_at) [D32 xs, I64 i] []).pt (outEv pg f_nat_at 0 [] false)) =
    PT.rq (5 : Nat)
  (PT.ite (decide (i < (↑xs.length : Int)))
    (PT.rq (2 : Nat)
      (PT.req (decide ((0 : Int) ≤ i) && decide (i < (↑xs.length : Int))) (PT.rq (2 : Nat) (PT.leaf (PE.out { vc := true, val := TV.lf (Leaf.int IntKind.u32 (xs.getD i.toNat (0 : Int))) })))))
    (PT.rq (1 : Nat) (PT.leaf (PE.out { vc := true, val := TV.lf (Leaf.int IntKind.u32 (0 : Int)) })))) := by kernel_rfl


theorem at_ok : eAt.ok pg := Entry.data_ok <| by
  intro args es r h hv
  unfold aAt at h
  simp only at h
  split at h
  · rename_i xs i
    cases h
    simp only [decide_eq_true_eq] at hv
    refine entry_ok (fn := f_nat_at) pg_mixed (T := tab []) (tab_sound trivial) (L := noLoops) (by kernel_rfl) (by kernel_rfl) (by kernel_rfl) regs_told (loops_told0 (by kernel_rfl)) [] ?_
    simp only [List.length_nil]
    rw [at_nf]
    simp only [PT.sat, PT.sat_rq, dig, true_and, Bool.and_eq_true, decide_eq_true_eq, decide_eq_false_iff_not, hv, and_true]
    refine ⟨fun h => ?_, fun h => ?_⟩
    · rw [if_pos h]; exact ⟨h, rfl⟩
    · rw [if_neg h]
  · cases h

/-! nat.Cut -/
abbrev cutC : Cut := ⟨[.keep [0, 3], .heap []], [0, 3]⟩

def cutDec : List TV → List (Nat × Ent) → Option Tree
  | [.lf (.dat (.int .u32) xs), .lf (.int .i64 n)], [] => some (.req (decide (0 ≤ n) && decide (n ≤ xs.length) && decide (xs.length ≤ 2 ^ 40)) (.leaf (.exit 0 (spSt 22 [0, 3] [D32 xs, I64 (cutN xs n.toNat)] []))))
  | _, _ => none

def cutLoop : Nat → St → Option Tree
  | 0, σ => match seeSt cutC.plan cutC.ts 22 σ with
    | some x => cutDec x.1 x.2
    | none => none
  | _, _ => none

theorem cut_round (xs : List Int) (n : Nat) : ((evCode pg (tab []) (loopsTold cutLoop) 0 (lp 0 (codeOf f_nat_Cut) 0).2 (spSt 22 [0, 3] [D32 xs, I64 n] [])).pt (seeEv 22 cutC cutC cutC)) =
    PT.rq (3 : Nat)
  (PT.ite (decide ((0 : Int) < (↑n : Int)))
    (PT.rq (3 : Nat)
      (PT.req (decide ((0 : Int) ≤ IntKind.i64.wrap ((↑n : Int) - (1 : Int))) && decide (IntKind.i64.wrap ((↑n : Int) - (1 : Int)) < (↑xs.length : Int)))
        (PT.rq (3 : Nat)
          (PT.ite (xs.getD (IntKind.i64.wrap ((↑n : Int) - (1 : Int))).toNat (0 : Int) == (0 : Int))
            (PT.rq (3 : Nat) (PT.leaf (PE.norm [TV.lf (Leaf.dat (Ty.int IntKind.u32) xs), TV.lf (Leaf.int IntKind.i64 (IntKind.i64.wrap ((↑n : Int) - (1 : Int))))] [])))
            (PT.leaf (PE.exit (0 : Nat) [TV.lf (Leaf.dat (Ty.int IntKind.u32) xs), TV.lf (Leaf.int IntKind.i64 (↑n : Int))] []))))))
    (PT.rq (1 : Nat)
      (PT.ite false (PT.rq (3 : Nat) (PT.leaf (PE.norm [TV.lf (Leaf.dat (Ty.int IntKind.u32) xs), TV.lf (Leaf.int IntKind.i64 (IntKind.i64.wrap ((↑n : Int) - (1 : Int))))] [])))
        (PT.leaf (PE.exit (0 : Nat) [TV.lf (Leaf.dat (Ty.int IntKind.u32) xs), TV.lf (Leaf.int IntKind.i64 (↑n : Int))] []))))) := by kernel_rfl


theorem cut_nf (xs : List Int) : ((evFn pg (tab [eClone32]) (loopsTold cutLoop) f_nat_Cut (codeOf f_nat_Cut) [D32 xs] []).pt (outEv pg f_nat_Cut 0 [.toDat 2] true)) =
    PT.rq (4 : Nat)
  (PT.req (decide ((0 : Int) ≤ (↑xs.length : Int)) && decide ((↑xs.length : Int) ≤ (↑xs.length : Int)) && decide (xs.length ≤ (2 : Nat) ^ (40 : Nat)))
    (PT.rq (2 : Nat)
      (PT.req (decide ((0 : Int) ≤ (↑(cutN xs (↑xs.length : Int).toNat) : Int)) && decide ((↑(cutN xs (↑xs.length : Int).toNat) : Int) ≤ (↑xs.length : Int)))
        (PT.req (decide ((List.take (↑(cutN xs (↑xs.length : Int).toNat) : Int).toNat xs).length ≤ (2 : Nat) ^ (40 : Nat)))
          (PT.rq (1 : Nat) (PT.leaf (PE.out { vc := true, val := TV.lf (Leaf.dat (Ty.int IntKind.u32) (List.take (↑(cutN xs (↑xs.length : Int).toNat) : Int).toNat xs)), shares := true }))))))) := by kernel_rfl


theorem cut_loop : LoopOK pg (loopsTold cutLoop) (lp 0 (codeOf f_nat_Cut) 0) := by
  refine loop_see pg_mixed (T := tab []) (tab_sound trivial) (b := 0) (len := 22) (body := (lp 0 (codeOf f_nat_Cut) 0).2) (ch := cutC) (cx := cutC) (cr := cutC)
    (fun x : List Int × Nat => ([D32 x.1, I64 x.2], [])) (fun x => x.2 ≤ x.1.length ∧ x.1.length ≤ 2 ^ 40) (fun x => x.2)
    (fun x => .leaf (.exit 0 (spSt 22 [0, 3] [D32 x.1, I64 (cutN x.1 x.2)] [])))
    regs_told (loops_told0 (by kernel_rfl)) cutDec (fun _ => rfl) ?_ ?_
  · intro vs hp t h K hK
    unfold cutDec at h
    split at h
    · rename_i xs n
      cases h
      obtain ⟨hc, hK⟩ := hK
      simp only [Bool.and_eq_true, decide_eq_true_eq] at hc
      refine ⟨(xs, n.toNat), ?_, ?_, hK⟩
      · simp only [Int.toNat_of_nonneg hc.1.1]
      · simp only; omega
    · cases h
  · rintro ⟨xs, n⟩ ⟨h1, h2⟩ K hK
    simp only at h1 h2 hK ⊢
    rw [cut_round]
    simp only [PT.sat_rq, PT.sat_req, PT.sat_ite, PT.sat_leaf, decide_eq_true_eq, decide_eq_false_iff_not, Bool.and_eq_true, beq_iff_eq, beq_eq_false_iff_ne]
    refine ⟨fun h0 => ?_, fun h0 => ⟨(fun h => by cases h), fun _ => ?_⟩⟩
    · obtain ⟨m, rfl⟩ : ∃ m, n = m + 1 := ⟨n - 1, by omega⟩
      have hw : IntKind.i64.wrap (((m + 1 : Nat) : Int) - 1) = (m : Int) := by rw [i64_in] <;> omega
      simp only [hw]
      simp only [Tree.sat, cutN] at hK
      refine ⟨⟨by omega, by omega⟩, fun h3 => ⟨(xs, m), rfl, ⟨by simp only; omega, h2⟩, by simp only; omega, ?_⟩, fun h3 => ?_⟩
      · rw [if_pos (by simpa using h3)] at hK
        exact hK
      · rw [if_neg (by simpa using h3)] at hK
        exact hK
    · have : n = 0 := by omega
      subst this
      exact hK

def aCut : List TV → List Ent → Option CallRes
  | [.lf (.dat (.int .u32) xs)], [] => some ⟨decide (xs.length ≤ 2 ^ 40) && wfd B32 xs, D32 (digs B32 (val B32 xs)), [], [], true⟩
  | _, _ => none
def eCut : Entry := .data n_nat_Cut [L32] aCut

theorem cut_ok : eCut.ok pg := Entry.data_ok <| by
  intro args es r h hv
  unfold aCut at h
  simp only at h
  split at h
  · rename_i xs
    cases h
    simp only [Bool.and_eq_true, decide_eq_true_eq] at hv
    refine entry_ok (fn := f_nat_Cut) pg_mixed (T := tab [eClone32]) (tab_sound ⟨clone32_ok, trivial⟩) (L := loopsTold cutLoop) (by kernel_rfl) (by kernel_rfl) (by kernel_rfl) regs_told
      (loops_told1 (by kernel_rfl) cut_loop) [.toDat 2] ?_
    simp only [List.length_nil]
    rw [cut_nf]
    have := cutN_le xs xs.length
    simp only [PT.sat_rq, PT.sat_req, PT.sat_leaf, decide_eq_true_eq, Bool.and_eq_true, Int.toNat_natCast, List.length_take]
    refine ⟨⟨⟨by omega, by omega⟩, hv.1⟩, ⟨by omega, by omega⟩, by omega, ?_, by first | rfl | trivial, by first | rfl | trivial⟩
    rw [← cut_eq (b := B32) (by decide) hv.2]
    rfl
  · cases h

end Go.Proofs.Ytlfdidaeachpoaa

/- Long numbers: sums. -/
namespace Go.Proofs.Ytlfdidaeachpoaa
open Go Go.RowKit
set_option maxRecDepth 100000

/-! nat.plus -/
abbrev plusH : Cut := ⟨[.nilRow 5 2 tU32 (.int .u32), .keep [0, 1, 5, 6, 13, 14], .heap [2, 512], .ren 5 1], [0, 1, 5, 6, 13, 14]⟩
abbrev plusX : Cut := ⟨[.keep [5], .heap [1]], [5]⟩

def plusDec : List TV → List (Nat × Ent) → Option Tree
  | [.lf (.dat (.int .u32) xs), .lf (.dat (.int .u32) ys), .lf (.ref 1), .lf (.int .u64 o), .lf (.int .i64 n), .lf (.int .i64 i)], [(1, ⟨true, .arr tU32 (.int .u32) out⟩)] =>
    some (.req (decide (0 ≤ i) && decide (i ≤ n) && decide (n ≤ 2 ^ 41) && decide (0 ≤ o) && decide (o < B32) && wfd B32 xs && wfd B32 ys && decide (out.length = i))
      (.leaf (.exit 0 (spSt 38 [5] [.lf (.ref 1)] [(1, Row32 (out ++ plusN B32 xs ys (n - i).toNat i.toNat o))]))))
  | _, _ => none

def plusLoop : Nat → St → Option Tree
  | 0, σ => match seeSt plusH.plan plusH.ts 38 σ with
    | some x => plusDec x.1 x.2
    | none => none
  | _, _ => none

theorem plus_round (xs ys out : List Int) (o : Int) (n i : Nat) : ((evCode pg (tab [eAt, eCut]) (loopsTold plusLoop) 0 (lp 0 (codeOf f_nat_plus) 0).2 (spSt 38 [0, 1, 5, 6, 13, 14] [D32 xs, D32 ys, .lf (.ref 1), U64 o, I64 n, I64 i] [(1, Row32 out)])).pt (seeEv 38 plusH plusX plusX)) =
    PT.rq (1 : Nat)
  (PT.ite (decide ((↑i : Int) < (↑n : Int)))
    (PT.rq (18 : Nat)
      (PT.req
        (decide
            ((out.length +
                  ((List.replicate (1 : Nat) (0 : Int)).set (0 : Nat)
                      (IntKind.u32.wrap (IntKind.u64.wrap (o + IntKind.u64.wrap (IntKind.u64.wrap (dig xs (↑i : Int)) + IntKind.u64.wrap (dig ys (↑i : Int))))))).length) *
                pg.bytesOf (90 : Nat) ≤
              (140737488355328 : Nat)) &&
          decide
            (out.length +
                ((List.replicate (1 : Nat) (0 : Int)).set (0 : Nat)
                    (IntKind.u32.wrap (IntKind.u64.wrap (o + IntKind.u64.wrap (IntKind.u64.wrap (dig xs (↑i : Int)) + IntKind.u64.wrap (dig ys (↑i : Int))))))).length ≤
              maxLen))
        (PT.rq (6 : Nat)
          (PT.leaf
            (PE.norm
              [TV.lf (Leaf.dat (Ty.int IntKind.u32) xs), TV.lf (Leaf.dat (Ty.int IntKind.u32) ys), TV.lf (Leaf.ref (1 : Nat)),
                TV.lf
                  (Leaf.int IntKind.u64
                    ((IntKind.u64.wrap (o + IntKind.u64.wrap (IntKind.u64.wrap (dig xs (↑i : Int)) + IntKind.u64.wrap (dig ys (↑i : Int))))).fdiv
                      ((2 : Int) ^ min (Int.toNat (32 : Int)) IntKind.u64.bits))),
                TV.lf (Leaf.int IntKind.i64 (↑n : Int)), TV.lf (Leaf.int IntKind.i64 (IntKind.i64.wrap ((↑i : Int) + (1 : Int))))]
              [((1 : Nat),
                  { w := true,
                    b :=
                      EB.arr (90 : Nat) (Ty.int IntKind.u32)
                        (out ++
                          (List.replicate (1 : Nat) (0 : Int)).set (0 : Nat)
                            (IntKind.u32.wrap (IntKind.u64.wrap (o + IntKind.u64.wrap (IntKind.u64.wrap (dig xs (↑i : Int)) + IntKind.u64.wrap (dig ys (↑i : Int))))))) })])))))
    (PT.leaf (PE.exit (0 : Nat) [TV.lf (Leaf.ref (1 : Nat))] [((1 : Nat), { w := true, b := EB.arr (90 : Nat) (Ty.int IntKind.u32) out })]))) := by kernel_rfl


theorem plus_nf (xs ys : List Int) : ((evFn pg (tab [eAt, eCut]) (loopsTold plusLoop) f_nat_plus (codeOf f_nat_plus) [D32 xs, D32 ys] []).pt (outEv pg f_nat_plus 0 [.toDat 4] true)) =
    PT.rq (10 : Nat)
  (PT.req
    (decide ((0 : Int) ≤ (0 : Int)) &&
                  decide
                    ((0 : Int) ≤
                      IntKind.i64.wrap
                        ((if true = true then if (↑ys.length : Int) > (↑xs.length : Int) then (↑ys.length : Int) else (↑xs.length : Int)
                          else if (↑ys.length : Int) < (↑xs.length : Int) then (↑ys.length : Int) else (↑xs.length : Int)) +
                          (1 : Int))) &&
                decide
                  (IntKind.i64.wrap
                      ((if true = true then if (↑ys.length : Int) > (↑xs.length : Int) then (↑ys.length : Int) else (↑xs.length : Int)
                        else if (↑ys.length : Int) < (↑xs.length : Int) then (↑ys.length : Int) else (↑xs.length : Int)) +
                        (1 : Int)) ≤
                    (2 : Int) ^ (41 : Nat)) &&
              decide ((0 : Int) ≤ (0 : Int)) &&
            decide ((0 : Int) < (↑B32 : Int)) &&
          wfd B32 xs &&
        wfd B32 ys &&
      decide ((↑(nilD (Ty.int IntKind.u32).den).length : Int) = (0 : Int)))
    (PT.rq (1 : Nat)
      (PT.req
        (decide
            ((nilD (Ty.int IntKind.u32).den ++
                  plusN B32 xs ys
                    (IntKind.i64.wrap
                          ((if true = true then if (↑ys.length : Int) > (↑xs.length : Int) then (↑ys.length : Int) else (↑xs.length : Int)
                            else if (↑ys.length : Int) < (↑xs.length : Int) then (↑ys.length : Int) else (↑xs.length : Int)) +
                            (1 : Int)) -
                        (0 : Int)).toNat
                    (Int.toNat (0 : Int)) (0 : Int)).length ≤
              (2 : Nat) ^ (40 : Nat)) &&
          wfd B32
            (nilD (Ty.int IntKind.u32).den ++
              plusN B32 xs ys
                (IntKind.i64.wrap
                      ((if true = true then if (↑ys.length : Int) > (↑xs.length : Int) then (↑ys.length : Int) else (↑xs.length : Int)
                        else if (↑ys.length : Int) < (↑xs.length : Int) then (↑ys.length : Int) else (↑xs.length : Int)) +
                        (1 : Int)) -
                    (0 : Int)).toNat
                (Int.toNat (0 : Int)) (0 : Int)))
        (PT.rq (1 : Nat)
          (PT.leaf
            (PE.out
              { vc := true,
                val :=
                  TV.lf
                    (Leaf.dat (Ty.int IntKind.u32)
                      (digs B32
                        (val B32
                          (nilD (Ty.int IntKind.u32).den ++
                            plusN B32 xs ys
                              (IntKind.i64.wrap
                                    ((if true = true then if (↑ys.length : Int) > (↑xs.length : Int) then (↑ys.length : Int) else (↑xs.length : Int)
                                      else if (↑ys.length : Int) < (↑xs.length : Int) then (↑ys.length : Int) else (↑xs.length : Int)) +
                                      (1 : Int)) -
                                  (0 : Int)).toNat
                              (Int.toNat (0 : Int)) (0 : Int))))),
                shares := true })))))) := by kernel_rfl


theorem dig_bd {xs : List Int} (h : wfd B32 xs = true) (i : Nat) : 0 ≤ dig xs i ∧ dig xs i < 4294967296 := by
  rw [dig_nat]
  exact wfd_get (by decide) h i

theorem plusN_len (b : Nat) (xs ys : List Int) : ∀ k i o, (plusN b xs ys k i o).length = k
  | 0, _, _ => rfl
  | k + 1, i, o => by simp [plusN, plusN_len b xs ys k]

theorem shr32 (n : Int) : n.fdiv ((2 : Int) ^ min (Int.toNat (32 : Int)) IntKind.u64.bits) = n / 4294967296 := by
  have : (2 : Int) ^ min (Int.toNat (32 : Int)) IntKind.u64.bits = 4294967296 := rfl
  rw [this, Int.fdiv_eq_ediv_of_nonneg _ (by decide)]

theorem plus_loop : LoopOK pg (loopsTold plusLoop) (lp 0 (codeOf f_nat_plus) 0) := by
  refine loop_see pg_mixed (T := tab [eAt, eCut]) (tab_sound ⟨at_ok, cut_ok, trivial⟩) (b := 0) (len := 38) (body := (lp 0 (codeOf f_nat_plus) 0).2) (ch := plusH) (cx := plusX) (cr := plusX)
    (fun x : (List Int × List Int × List Int) × Int × Nat × Nat => ([D32 x.1.1, D32 x.1.2.1, .lf (.ref 1), U64 x.2.1, I64 x.2.2.1, I64 x.2.2.2], [(1, Row32 x.1.2.2)]))
    (fun x => (wfd B32 x.1.1 = true ∧ wfd B32 x.1.2.1 = true) ∧ (0 ≤ x.2.1 ∧ x.2.1 < 4294967296) ∧ x.2.2.2 ≤ x.2.2.1 ∧ x.2.2.1 ≤ 2 ^ 41 ∧ x.1.2.2.length = x.2.2.2) (fun x => x.2.2.1 - x.2.2.2)
    (fun x => .leaf (.exit 0 (spSt 38 [5] [.lf (.ref 1)] [(1, Row32 (x.1.2.2 ++ plusN B32 x.1.1 x.1.2.1 (x.2.2.1 - x.2.2.2) x.2.2.2 x.2.1))])))
    regs_told (loops_told0 (by kernel_rfl)) plusDec (fun _ => rfl) ?_ ?_
  · intro vs hp t h K hK
    unfold plusDec at h
    split at h
    · rename_i xs ys o n i out
      cases h
      obtain ⟨hc, hK⟩ := hK
      simp only [Bool.and_eq_true, decide_eq_true_eq] at hc
      obtain ⟨⟨⟨⟨⟨⟨⟨h1, h2⟩, h3⟩, h4⟩, h5⟩, h6⟩, h7⟩, h8⟩ := hc
      obtain ⟨i, rfl⟩ := Int.eq_ofNat_of_zero_le h1
      obtain ⟨n, rfl⟩ := Int.eq_ofNat_of_zero_le (Int.le_trans h1 h2)
      refine ⟨((xs, ys, out), o, n, i), rfl, ⟨⟨h6, h7⟩, ⟨h4, h5⟩, by simp only; omega, by simp only; omega, by simp only; omega⟩, ?_⟩
      have e1 : ((n : Int) - (i : Int)).toNat = n - i := by omega
      simp only [e1, Int.toNat_natCast] at hK
      exact hK
    · cases h
  · rintro ⟨⟨xs, ys, out⟩, o, n, i⟩ ⟨⟨h1, h2⟩, ⟨h3, h4⟩, h5, h6, h7⟩ K hK
    simp only at h1 h2 h3 h4 h5 h6 h7 hK ⊢
    rw [plus_round]
    have d1 := dig_bd h1 i
    have d2 := dig_bd h2 i
    have w1 : IntKind.u64.wrap (dig xs i) = dig xs i := u64_in (by omega)
    have w2 : IntKind.u64.wrap (dig ys i) = dig ys i := u64_in (by omega)
    have w3 : IntKind.u64.wrap (dig xs i + dig ys i) = dig xs i + dig ys i := u64_in (by omega)
    have w4 : IntKind.u64.wrap (o + (dig xs i + dig ys i)) = o + (dig xs i + dig ys i) := u64_in (by omega)
    have w5 : IntKind.i64.wrap ((i : Int) + 1) = ((i + 1 : Nat) : Int) := by rw [i64_in] <;> omega
    simp only [w1, w2, w3, w4, w5, shr32, wrap_u32, bytesU32, maxLen_eq]
    simp only [PT.sat_rq, PT.sat_req, PT.sat_ite, PT.sat_leaf, decide_eq_true_eq, decide_eq_false_iff_not, Bool.and_eq_true, List.length_set, List.length_replicate]
    refine ⟨fun h0 => ⟨⟨by omega, by omega⟩, ((xs, ys, out ++ [(o + (dig xs i + dig ys i)) % 4294967296]), (o + (dig xs i + dig ys i)) / 4294967296, n, i + 1), rfl, ⟨⟨h1, h2⟩, ⟨?_, ?_⟩, ?_, h6, ?_⟩, ?_, ?_⟩, fun h0 => ?_⟩
    · simp only; omega
    · simp only; omega
    · simp only; omega
    · simp [h7]
    · simp only; omega
    · obtain ⟨k, hk⟩ : ∃ k, n - i = k + 1 := ⟨n - i - 1, by omega⟩
      have hk' : n - (i + 1) = k := by omega
      simp only [hk', Tree.sat]
      rw [hk] at hK
      simp only [plusN, Tree.sat] at hK
      rw [List.append_assoc]
      exact hK
    · have : n - i = 0 := by omega
      rw [this] at hK
      simp only [plusN, List.append_nil] at hK
      exact hK

def aPlus : List TV → List Ent → Option CallRes
  | [.lf (.dat (.int .u32) xs), .lf (.dat (.int .u32) ys)], [] => some ⟨decide (xs.length ≤ 2 ^ 39) && decide (ys.length ≤ 2 ^ 39) && wfd B32 xs && wfd B32 ys, D32 (digs B32 (val B32 xs + val B32 ys)), [], [], true⟩
  | _, _ => none
def ePlus : Entry := .data n_nat_plus [L32, L32] aPlus

theorem plus_ok : ePlus.ok pg := Entry.data_ok <| by
  intro args es r h hv
  unfold aPlus at h
  simp only at h
  split at h
  · rename_i xs ys
    cases h
    simp only [Bool.and_eq_true, decide_eq_true_eq] at hv
    obtain ⟨⟨⟨h1, h2⟩, h3⟩, h4⟩ := hv
    refine entry_ok (fn := f_nat_plus) pg_mixed (T := tab [eAt, eCut]) (tab_sound ⟨at_ok, cut_ok, trivial⟩) (L := loopsTold plusLoop) (by kernel_rfl) (by kernel_rfl) (by kernel_rfl) regs_told
      (loops_told1 (by kernel_rfl) plus_loop) [.toDat 4] ?_
    simp only [List.length_nil]
    rw [plus_nf]
    obtain ⟨n, hn, hn1, hn2, hn3⟩ : ∃ n : Nat, (IntKind.i64.wrap ((if true = true then if (ys.length : Int) > (xs.length : Int) then (ys.length : Int) else (xs.length : Int) else if (ys.length : Int) < (xs.length : Int) then (ys.length : Int) else (xs.length : Int)) + 1)) = (n : Int) ∧ xs.length < n ∧ ys.length < n ∧ n ≤ 2 ^ 39 + 1 := by
      refine ⟨max xs.length ys.length + 1, ?_, by omega, by omega, by omega⟩
      rw [if_pos rfl, i64_in]
      · split <;> omega
      · split <;> omega
    rw [hn]
    have e1 : ((n : Int) - 0).toNat = n := by omega
    have e2 := plusN_sum (b := B32) (by decide) h3 h4 hn1 hn2
    have e3 := plusN_wf (b := B32) (by decide) xs ys n 0 0
    simp only [PT.sat_rq, PT.sat_req, PT.sat_leaf, decide_eq_true_eq, Bool.and_eq_true, nilD, List.nil_append, e1, Int.toNat_zero, plusN_len, e2, e3, h3, h4]
    refine ⟨⟨⟨⟨⟨⟨⟨⟨?_, ?_⟩, ?_⟩, ?_⟩, ?_⟩, trivial⟩, trivial⟩, rfl⟩, ⟨?_, trivial⟩, by first | rfl | trivial, by first | rfl | trivial, by first | rfl | trivial⟩ <;> first | omega | decide
  · cases h

end Go.Proofs.Ytlfdidaeachpoaa

/- Long numbers: sums of many, of words. -/
namespace Go.Proofs.Ytlfdidaeachpoaa
open Go Go.RowKit
set_option maxRecDepth 100000

theorem dgo_len {b : Nat} (hb : 2 ≤ b) : ∀ (f m n : Nat), n < b ^ m → (dgo b f n).length ≤ m
  | 0, m, n, _ => by simp [dgo]
  | f + 1, m, n, h => by
    unfold dgo
    split
    · simp
    · rename_i h0
      cases m with
      | zero => simp at h; omega
      | succ m =>
        have : n / b < b ^ m := by
          rw [Nat.div_lt_iff_lt_mul (by omega)]
          rwa [Nat.pow_succ] at h
        simpa using dgo_len hb f m (n / b) this

theorem digs_len {b : Nat} (hb : 2 ≤ b) {m n : Nat} (h : n < b ^ m) : (digs b n).length ≤ m := dgo_len hb n m n h

/-! nat.Of -/
theorem of_nf (n : Int) : ((evFn pg (tab [eCut]) noLoops f_nat_Of (codeOf f_nat_Of) [U64 n] []).pt (outEv pg f_nat_Of 0 [.toDat 2] true)) =
    PT.rq (7 : Nat)
  (PT.req
    (decide
        ((((List.replicate (2 : Nat) (0 : Int)).set (0 : Nat) (IntKind.u32.wrap n)).set (1 : Nat) (IntKind.u32.wrap (n.fdiv ((2 : Int) ^ min (Int.toNat (32 : Int)) IntKind.u64.bits)))).length ≤
          (2 : Nat) ^ (40 : Nat)) &&
      wfd B32 (((List.replicate (2 : Nat) (0 : Int)).set (0 : Nat) (IntKind.u32.wrap n)).set (1 : Nat) (IntKind.u32.wrap (n.fdiv ((2 : Int) ^ min (Int.toNat (32 : Int)) IntKind.u64.bits)))))
    (PT.rq (1 : Nat)
      (PT.leaf
        (PE.out
          { vc := true,
            val :=
              TV.lf
                (Leaf.dat (Ty.int IntKind.u32)
                  (digs B32
                    (val B32
                      (((List.replicate (2 : Nat) (0 : Int)).set (0 : Nat) (IntKind.u32.wrap n)).set (1 : Nat)
                        (IntKind.u32.wrap (n.fdiv ((2 : Int) ^ min (Int.toNat (32 : Int)) IntKind.u64.bits))))))),
            shares := true })))) := by kernel_rfl


def aOf : List TV → List Ent → Option CallRes
  | [.lf (.int .u64 n)], [] => some ⟨decide (0 ≤ n) && decide (n < 18446744073709551616), D32 (digs B32 n.toNat), [], [], true⟩
  | _, _ => none
def eOf : Entry := ⟨n_nat_Of, aOf⟩

theorem two_digits (n : Int) (h : 0 ≤ n ∧ n < 18446744073709551616) : wfd B32 [n % 4294967296, n / 4294967296 % 4294967296] = true ∧ val B32 [n % 4294967296, n / 4294967296 % 4294967296] = n.toNat := by
  refine ⟨wfd_cons.2 ⟨⟨by omega, by show _ < ((4294967296 : Nat) : Int); omega⟩, wfd_cons.2 ⟨⟨by omega, by show _ < ((4294967296 : Nat) : Int); omega⟩, rfl⟩⟩, ?_⟩
  simp only [val, B32]
  omega

theorem of_ok : eOf.ok pg := by
  intro args es r h hv
  unfold eOf aOf at h
  simp only at h
  split at h
  · rename_i n
    cases h
    simp only [Bool.and_eq_true, decide_eq_true_eq] at hv
    refine entry_ok (fn := f_nat_Of) pg_mixed (T := tab [eCut]) (tab_sound ⟨cut_ok, trivial⟩) (L := noLoops) (by kernel_rfl) (by kernel_rfl) (by kernel_rfl) regs_told (loops_told0 (by kernel_rfl)) [.toDat 2] ?_
    simp only [List.length_nil]
    rw [of_nf]
    obtain ⟨h1, h2⟩ := two_digits n hv
    have e : ((List.replicate 2 (0 : Int)).set 0 (IntKind.u32.wrap n)).set 1 (IntKind.u32.wrap (n.fdiv ((2 : Int) ^ min (Int.toNat (32 : Int)) IntKind.u64.bits))) = [n % 4294967296, n / 4294967296 % 4294967296] := by
      rw [shr32, wrap_u32, wrap_u32]
      rfl
    simp only [PT.sat_rq, PT.sat_req, PT.sat_leaf, decide_eq_true_eq, Bool.and_eq_true, e, h1, h2]
    exact ⟨⟨by simp, trivial⟩, by first | rfl | trivial, by first | rfl | trivial, by first | rfl | trivial⟩
  · cases h

/-! nat.Add -/
abbrev DD32 (xss : List (List Int)) : TV := .lf (.dat (.sl (.int .u32)) xss)
abbrev LL32 : List Ty := [.sl (.sl (.int .u32))]

def sumv (xss : List (List Int)) : Nat := (xss.map (val B32)).sum
def small32 (m : Nat) (xs : List Int) : Bool := decide (xs.length ≤ m) && wfd B32 xs

abbrev addC : Cut := ⟨[.nilDat 3 (.int .u32), .keep [3, 6, 7, 8], .heap []], [3, 6, 7, 8]⟩

def addDec : List TV → List (Nat × Ent) → Option Tree
  | [.lf (.dat (.int .u32) out), .lf (.dat (.sl (.int .u32)) xss), .lf (.int .i64 n), .lf (.int .i64 i)], [] =>
    some (.req (decide (0 ≤ i) && decide (i ≤ n) && decide (n = (xss.length : Int)) && decide (xss.length ≤ 2 ^ 20) && xss.all (small32 (2 ^ 20)) && decide (out = digs B32 (sumv (xss.take i.toNat))))
      (.leaf (.exit 0 (spSt 17 [3, 6, 7, 8] [D32 (digs B32 (sumv xss)), DD32 xss, I64 n, I64 n] []))))
  | _, _ => none

def addLoop : Nat → St → Option Tree
  | 0, σ => match seeSt addC.plan addC.ts 17 σ with
    | some x => addDec x.1 x.2
    | none => none
  | _, _ => none

theorem add_round (xss : List (List Int)) (out : List Int) (n i : Nat) : ((evCode pg (tab [ePlus]) (loopsTold addLoop) 0 (lp 0 (codeOf f_nat_Add) 0).2 (spSt 17 [3, 6, 7, 8] [D32 out, DD32 xss, I64 n, I64 i] [])).pt (seeEv 17 addC addC addC)) =
    PT.rq (1 : Nat)
  (PT.ite (decide ((↑i : Int) < (↑n : Int)))
    (PT.req (decide ((0 : Int) ≤ (↑i : Int)) && decide ((↑i : Int) < (↑xss.length : Int)))
      (PT.rq (4 : Nat)
        (PT.req
          (decide (out.length ≤ (2 : Nat) ^ (39 : Nat)) && decide (List.length (xss.getD (↑i : Int).toNat (nilD (Ty.int IntKind.u32).den)) ≤ (2 : Nat) ^ (39 : Nat)) && wfd B32 out &&
            wfd B32 (xss.getD (↑i : Int).toNat (nilD (Ty.int IntKind.u32).den)))
          (PT.rq (3 : Nat)
            (PT.leaf
              (PE.norm
                [TV.lf (Leaf.dat (Ty.int IntKind.u32) (digs B32 (val B32 out + val B32 (xss.getD (↑i : Int).toNat (nilD (Ty.int IntKind.u32).den))))), TV.lf (Leaf.dat (Ty.int IntKind.u32).sl xss),
                  TV.lf (Leaf.int IntKind.i64 (↑n : Int)), TV.lf (Leaf.int IntKind.i64 (IntKind.i64.wrap ((↑i : Int) + (1 : Int))))]
                []))))))
    (PT.leaf
      (PE.exit (0 : Nat) [TV.lf (Leaf.dat (Ty.int IntKind.u32) out), TV.lf (Leaf.dat (Ty.int IntKind.u32).sl xss), TV.lf (Leaf.int IntKind.i64 (↑n : Int)), TV.lf (Leaf.int IntKind.i64 (↑i : Int))]
        []))) := by kernel_rfl


theorem add_nf (xss : List (List Int)) : ((evFn pg (tab [ePlus]) (loopsTold addLoop) f_nat_Add (codeOf f_nat_Add) [DD32 xss] []).pt (outEv pg f_nat_Add 0 [.toDat 2] true)) =
    PT.rq (5 : Nat)
  (PT.req
    (decide ((0 : Int) ≤ (0 : Int)) && decide ((0 : Int) ≤ (↑xss.length : Int)) && decide ((↑xss.length : Int) = (↑xss.length : Int)) && decide (xss.length ≤ (2 : Nat) ^ (20 : Nat)) &&
        xss.all (small32 ((2 : Nat) ^ (20 : Nat))) &&
      decide (nilD (Ty.int IntKind.u32).den = digs B32 (sumv (List.take (Int.toNat (0 : Int)) xss))))
    (PT.rq (2 : Nat) (PT.leaf (PE.out { vc := true, val := TV.lf (Leaf.dat (Ty.int IntKind.u32) (digs B32 (sumv xss))), shares := true })))) := by kernel_rfl


theorem sumv_take_succ (xss : List (List Int)) (i : Nat) (h : i < xss.length) : sumv (xss.take (i + 1)) = sumv (xss.take i) + val B32 (xss.getD i []) := by
  unfold sumv
  rw [List.take_succ_eq_append_getElem h, List.map_append, List.sum_append, List.getD, List.getElem?_eq_getElem h]
  simp

theorem small_get {m : Nat} {xss : List (List Int)} (h : xss.all (small32 m) = true) (i : Nat) : (xss.getD i []).length ≤ m ∧ wfd B32 (xss.getD i []) = true := by
  rw [List.getD]
  cases hi : xss[i]? with
  | none => exact ⟨Nat.zero_le _, rfl⟩
  | some x =>
    have := List.all_eq_true.1 h x (List.mem_of_getElem? hi)
    simpa [small32] using this

theorem sumv_lt {m : Nat} : ∀ {xss : List (List Int)}, xss.all (small32 m) = true → sumv xss ≤ xss.length * B32 ^ m
  | [], _ => by simp [sumv]
  | x :: xss, h => by
    simp only [List.all_cons, Bool.and_eq_true, small32, decide_eq_true_eq] at h
    have := sumv_lt (xss := xss) h.2
    have h2 := val_lt (b := B32) (by decide) h.1.2
    have h3 : B32 ^ x.length ≤ B32 ^ m := Nat.pow_le_pow_right (by decide) h.1.1
    simp only [sumv, List.map_cons, List.sum_cons, List.length_cons, Nat.succ_mul] at this ⊢
    omega

theorem all_take {α : Type} {p : α → Bool} {l : List α} (h : l.all p = true) (n : Nat) : (l.take n).all p = true :=
  List.all_eq_true.2 fun x hx => List.all_eq_true.1 h x (List.mem_of_mem_take hx)

theorem sumv_len {m : Nat} {xss : List (List Int)} (h : xss.all (small32 m) = true) (hl : xss.length ≤ 2 ^ 20) : (digs B32 (sumv xss)).length ≤ m + 1 := by
  refine digs_len (by decide) ?_
  have := sumv_lt h
  have h2 : xss.length * B32 ^ m < B32 * B32 ^ m := Nat.mul_lt_mul_of_pos_right (Nat.lt_of_le_of_lt hl (by decide)) (Nat.pow_pos (by decide))
  rw [Nat.pow_succ, Nat.mul_comm (B32 ^ m)]
  omega

theorem add_loop : LoopOK pg (loopsTold addLoop) (lp 0 (codeOf f_nat_Add) 0) := by
  refine loop_see pg_mixed (T := tab [ePlus]) (tab_sound ⟨plus_ok, trivial⟩) (b := 0) (len := 17) (body := (lp 0 (codeOf f_nat_Add) 0).2) (ch := addC) (cx := addC) (cr := addC)
    (fun x : List (List Int) × Nat => ([D32 (digs B32 (sumv (x.1.take x.2))), DD32 x.1, I64 x.1.length, I64 x.2], []))
    (fun x => x.2 ≤ x.1.length ∧ x.1.length ≤ 2 ^ 20 ∧ x.1.all (small32 (2 ^ 20)) = true) (fun x => x.1.length - x.2)
    (fun x => .leaf (.exit 0 (spSt 17 [3, 6, 7, 8] [D32 (digs B32 (sumv x.1)), DD32 x.1, I64 x.1.length, I64 x.1.length] [])))
    regs_told (loops_told0 (by kernel_rfl)) addDec (fun _ => rfl) ?_ ?_
  · intro vs hp t h K hK
    unfold addDec at h
    split at h
    · rename_i out xss n i
      cases h
      obtain ⟨hc, hK⟩ := hK
      simp only [Bool.and_eq_true, decide_eq_true_eq] at hc
      obtain ⟨⟨⟨⟨⟨h1, h2⟩, h3⟩, h4⟩, h5⟩, h6⟩ := hc
      obtain ⟨i, rfl⟩ := Int.eq_ofNat_of_zero_le h1
      subst h3
      subst h6
      exact ⟨(xss, i), rfl, ⟨by simp only; omega, h4, h5⟩, hK⟩
    · cases h
  · rintro ⟨xss, i⟩ ⟨h1, h2, h3⟩ K hK
    simp only at h1 h2 h3 hK ⊢
    rw [add_round]
    have w5 : IntKind.i64.wrap ((i : Int) + 1) = ((i + 1 : Nat) : Int) := by rw [i64_in] <;> omega
    have g := small_get h3 i
    have hl := sumv_len (all_take h3 i) (Nat.le_trans (by simp; omega) h2)
    have hw := wfd_digs (b := B32) (by decide) (sumv (xss.take i))
    simp only [PT.sat_rq, PT.sat_req, PT.sat_ite, PT.sat_leaf, decide_eq_true_eq, decide_eq_false_iff_not, Bool.and_eq_true, nilD, Int.toNat_natCast, val_digs (b := B32) (by decide), w5]
    refine ⟨fun h0 => ⟨⟨by omega, by omega⟩, ⟨⟨⟨by omega, by omega⟩, hw⟩, g.2⟩, (xss, i + 1), ?_, ⟨by simp only; omega, h2, h3⟩, by simp only; omega, hK⟩, fun h0 => ?_⟩
    · simp only [sumv_take_succ xss i (by omega)]
    · obtain rfl : i = xss.length := by omega
      rw [List.take_length]
      exact hK

def aAdd : List TV → List Ent → Option CallRes
  | [.lf (.dat (.sl (.int .u32)) xss)], [] => some ⟨decide (xss.length ≤ 2 ^ 20) && xss.all (small32 (2 ^ 20)), D32 (digs B32 (sumv xss)), [], [], true⟩
  | _, _ => none
def eAdd : Entry := .data n_nat_Add [LL32] aAdd

theorem add_ok : eAdd.ok pg := Entry.data_ok <| by
  intro args es r h hv
  unfold aAdd at h
  simp only at h
  split at h
  · rename_i xss
    cases h
    simp only [Bool.and_eq_true, decide_eq_true_eq] at hv
    refine entry_ok (fn := f_nat_Add) pg_mixed (T := tab [ePlus]) (tab_sound ⟨plus_ok, trivial⟩) (L := loopsTold addLoop) (by kernel_rfl) (by kernel_rfl) (by kernel_rfl) regs_told
      (loops_told1 (by kernel_rfl) add_loop) [.toDat 2] ?_
    simp only [List.length_nil]
    rw [add_nf]
    simp only [PT.sat_rq, PT.sat_req, PT.sat_leaf, decide_eq_true_eq, Bool.and_eq_true, hv]
    refine ⟨⟨⟨⟨⟨⟨?_, ?_⟩, ?_⟩, ?_⟩, ?_⟩, ?_⟩, by first | rfl | trivial, by first | rfl | trivial, by first | rfl | trivial⟩ <;> first | trivial | omega | rfl
  · cases h

end Go.Proofs.Ytlfdidaeachpoaa

/- Comparing, with no program in sight. -/
namespace Go.Proofs.Ytlfdidaeachpoaa

def cmpI (a b : Int) : Int := if a < b then -1 else if b < a then 1 else 0

/-- Comparing the digits below a place, from the highest on. -/
def cmpN (xs ys : List Int) : Nat → Int
  | 0 => 0
  | k + 1 => if cmpI (dig xs k) (dig ys k) = 0 then cmpN xs ys k else cmpI (dig xs k) (dig ys k)

theorem mod_top (b x k : Nat) : x % b ^ (k + 1) = x % b ^ k + b ^ k * (x / b ^ k % b) := by
  rw [Nat.pow_succ, Nat.mod_mul]

theorem cmpI_eq {a b : Int} : cmpI a b = 0 ↔ a = b := by
  unfold cmpI
  constructor
  · intro h
    split at h
    · omega
    · split at h <;> omega
  · rintro rfl
    simp

theorem cmpN_val {b : Nat} (hb : 2 ≤ b) {xs ys : List Int} (hx : wfd b xs = true) (hy : wfd b ys = true) : ∀ k, cmpN xs ys k = cmpI ((val b xs % b ^ k : Nat) : Int) ((val b ys % b ^ k : Nat) : Int)
  | 0 => by simp [cmpN, cmpI, Nat.mod_one]
  | k + 1 => by
    have ih := cmpN_val hb hx hy k
    have hX := dig_val (by omega : 0 < b) hx k
    have hY := dig_val (by omega : 0 < b) hy k
    rw [mod_top, mod_top]
    unfold cmpN
    rw [ih, hX, hY]
    have p : 0 < b ^ k := Nat.pow_pos (by omega)
    have l1 := Nat.mod_lt (val b xs) p
    have l2 := Nat.mod_lt (val b ys) p
    generalize val b xs % b ^ k = x0 at *
    generalize val b ys % b ^ k = y0 at *
    generalize val b xs / b ^ k % b = x1 at *
    generalize val b ys / b ^ k % b = y1 at *
    generalize b ^ k = q at *
    by_cases h : x1 = y1
    · subst h
      rw [if_pos (cmpI_eq.2 rfl)]
      unfold cmpI
      generalize q * x1 = z
      have e1 : ((x0 : Int) < (y0 : Int)) ↔ (((x0 + z : Nat) : Int) < ((y0 + z : Nat) : Int)) := by omega
      have e2 : ((y0 : Int) < (x0 : Int)) ↔ (((y0 + z : Nat) : Int) < ((x0 + z : Nat) : Int)) := by omega
      simp only [e1, e2]
    · rw [if_neg fun e => h (by have := cmpI_eq.1 e; omega)]
      unfold cmpI
      rcases Nat.lt_or_gt_of_ne h with h1 | h1
      · have : q * (x1 + 1) ≤ q * y1 := Nat.mul_le_mul_left _ h1
        rw [Nat.mul_add] at this
        rw [if_pos (by omega), if_pos (by omega)]
      · have : q * (y1 + 1) ≤ q * x1 := Nat.mul_le_mul_left _ h1
        rw [Nat.mul_add] at this
        rw [if_neg (by omega), if_pos (by omega), if_neg (by omega), if_pos (by omega)]

theorem cmpN_all {b : Nat} (hb : 2 ≤ b) {xs ys : List Int} (hx : wfd b xs = true) (hy : wfd b ys = true) {k : Nat} (h1 : xs.length ≤ k) (h2 : ys.length ≤ k) : cmpN xs ys k = cmpI (val b xs) (val b ys) := by
  rw [cmpN_val hb hx hy k, Nat.mod_eq_of_lt, Nat.mod_eq_of_lt]
  · exact Nat.lt_of_lt_of_le (val_lt (by omega) hy) (Nat.pow_le_pow_right (by omega) h2)
  · exact Nat.lt_of_lt_of_le (val_lt (by omega) hx) (Nat.pow_le_pow_right (by omega) h1)

end Go.Proofs.Ytlfdidaeachpoaa

/- Long numbers: comparing. -/
namespace Go.Proofs.Ytlfdidaeachpoaa
open Go Go.RowKit
set_option maxRecDepth 100000

/-! cmp.isNaN, cmp.Compare -/
theorem nan32_nf (x : Int) : ((evFn pg (tab []) noLoops f_cmp_isNaN_uint32 (codeOf f_cmp_isNaN_uint32) [U32 x] []).pt (outEv pg f_cmp_isNaN_uint32 0 [] false)) =
    PT.rq (5 : Nat) (PT.leaf (PE.out { vc := true, val := TV.lf (Leaf.bool (x != x)) })) := by kernel_rfl


def aNan32 : List TV → List Ent → Option CallRes
  | [.lf (.int .u32 _)], [] => some ⟨true, .lf (.bool false), [], [], false⟩
  | _, _ => none
def eNan32 : Entry := ⟨n_cmp_isNaN_uint32, aNan32⟩

theorem nan32_ok : eNan32.ok pg := by
  intro args es r h hv
  unfold eNan32 aNan32 at h
  simp only at h
  split at h
  · rename_i x
    cases h
    refine entry_ok (fn := f_cmp_isNaN_uint32) pg_mixed (T := tab []) (tab_sound trivial) (L := noLoops) (by kernel_rfl) (by kernel_rfl) (by kernel_rfl) regs_told (loops_told0 (by kernel_rfl)) [] ?_
    simp only [List.length_nil]
    rw [nan32_nf]
    simp [PT.sat_rq, PT.sat_leaf]
  · cases h

theorem compare32_nf (x y : Int) : ((evFn pg (tab [eNan32]) noLoops f_cmp_Compare_uint32 (codeOf f_cmp_Compare_uint32) [U32 x, U32 y] []).pt (outEv pg f_cmp_Compare_uint32 0 [] false)) =
    PT.rq (8 : Nat)
  (PT.ite false
    (PT.rq (1 : Nat)
      (PT.ite false (PT.rq (1 : Nat) (PT.leaf (PE.out { vc := true, val := TV.lf (Leaf.int IntKind.i64 (0 : Int)) })))
        (PT.rq (1 : Nat) (PT.leaf (PE.out { vc := true, val := TV.lf (Leaf.int IntKind.i64 (-1 : Int)) })))))
    (PT.rq (1 : Nat)
      (PT.ite false (PT.rq (1 : Nat) (PT.leaf (PE.out { vc := true, val := TV.lf (Leaf.int IntKind.i64 (1 : Int)) })))
        (PT.rq (3 : Nat)
          (PT.ite (decide (x < y)) (PT.rq (1 : Nat) (PT.leaf (PE.out { vc := true, val := TV.lf (Leaf.int IntKind.i64 (-1 : Int)) })))
            (PT.rq (3 : Nat)
              (PT.ite (decide (y < x)) (PT.rq (1 : Nat) (PT.leaf (PE.out { vc := true, val := TV.lf (Leaf.int IntKind.i64 (1 : Int)) })))
                (PT.rq (1 : Nat) (PT.leaf (PE.out { vc := true, val := TV.lf (Leaf.int IntKind.i64 (0 : Int)) })))))))))) := by kernel_rfl


def aCompare32 : List TV → List Ent → Option CallRes
  | [.lf (.int .u32 x), .lf (.int .u32 y)], [] => some ⟨true, I64 (cmpI x y), [], [], false⟩
  | _, _ => none
def eCompare32 : Entry := ⟨n_cmp_Compare_uint32, aCompare32⟩

theorem compare32_ok : eCompare32.ok pg := by
  intro args es r h hv
  unfold eCompare32 aCompare32 at h
  simp only at h
  split at h
  · rename_i x y
    cases h
    refine entry_ok (fn := f_cmp_Compare_uint32) pg_mixed (T := tab [eNan32]) (tab_sound ⟨nan32_ok, trivial⟩) (L := noLoops) (by kernel_rfl) (by kernel_rfl) (by kernel_rfl) regs_told (loops_told0 (by kernel_rfl)) [] ?_
    simp only [List.length_nil]
    rw [compare32_nf]
    simp only [PT.sat_rq, PT.sat_ite, PT.sat_leaf, decide_eq_true_eq, decide_eq_false_iff_not, cmpI]
    refine ⟨(fun h => by cases h), fun _ => ⟨(fun h => by cases h), fun _ => ⟨fun h => ?_, fun h => ⟨fun h' => ?_, fun h' => ?_⟩⟩⟩⟩
    · simp [h]
    · simp [h, h']
    · simp [h, h']
  · cases h

/-! nat.Cmp -/
abbrev cmpH : Cut := ⟨[.keep [0, 1, 5], .heap []], [0, 1, 5]⟩
abbrev cmpX : Cut := ⟨[.keep [], .heap []], []⟩
abbrev cmpR : Cut := ⟨[.keep [4], .heap []], [4]⟩

def cmpAns (xs ys : List Int) (k : Nat) : Tree := .ite (cmpN xs ys k == 0) (.leaf (.exit 0 (spSt 27 [] [] []))) (.leaf (.ret (spSt 27 [4] [I64 (cmpN xs ys k)] [])))

def cmpDec : List TV → List (Nat × Ent) → Option Tree
  | [.lf (.dat (.int .u32) xs), .lf (.dat (.int .u32) ys), .lf (.int .i64 i)], [] =>
    some (.req (decide (-1 ≤ i) && decide (i ≤ 2 ^ 41)) (cmpAns xs ys (i + 1).toNat))
  | _, _ => none

def cmpLoop : Nat → St → Option Tree
  | 0, σ => match seeSt cmpH.plan cmpH.ts 27 σ with
    | some x => cmpDec x.1 x.2
    | none => none
  | _, _ => none

theorem cmp_round (xs ys : List Int) (i : Int) : ((evCode pg (tab [eAt, eCompare32]) (loopsTold cmpLoop) 0 (lp 0 (codeOf f_nat_Cmp) 0).2 (spSt 27 [0, 1, 5] [D32 xs, D32 ys, I64 i] [])).pt (seeEv 27 cmpH cmpX cmpR)) =
    PT.rq (2 : Nat)
  (PT.ite (decide ((0 : Int) ≤ i))
    (PT.rq (2 : Nat)
      (PT.req (decide ((0 : Int) ≤ i))
        (PT.rq (2 : Nat)
          (PT.req (decide ((0 : Int) ≤ i))
            (PT.rq (4 : Nat)
              (PT.ite (cmpI (dig xs i) (dig ys i) != (0 : Int)) (PT.rq (2 : Nat) (PT.leaf (PE.ret [TV.lf (Leaf.int IntKind.i64 (cmpI (dig xs i) (dig ys i)))] [])))
                (PT.rq (3 : Nat)
                  (PT.leaf (PE.norm [TV.lf (Leaf.dat (Ty.int IntKind.u32) xs), TV.lf (Leaf.dat (Ty.int IntKind.u32) ys), TV.lf (Leaf.int IntKind.i64 (IntKind.i64.wrap (i - (1 : Int))))] [])))))))))
    (PT.leaf (PE.exit (0 : Nat) [] []))) := by kernel_rfl


theorem cmp_nf (xs ys : List Int) : ((evFn pg (tab [eAt, eCompare32]) (loopsTold cmpLoop) f_nat_Cmp (codeOf f_nat_Cmp) [D32 xs, D32 ys] []).pt (outEv pg f_nat_Cmp 0 [] false)) =
    PT.rq (8 : Nat)
  (PT.req
    (decide
        ((-1 : Int) ≤
          IntKind.i64.wrap
            ((if true = true then if (↑ys.length : Int) > (↑xs.length : Int) then (↑ys.length : Int) else (↑xs.length : Int)
              else if (↑ys.length : Int) < (↑xs.length : Int) then (↑ys.length : Int) else (↑xs.length : Int)) -
              (1 : Int))) &&
      decide
        (IntKind.i64.wrap
            ((if true = true then if (↑ys.length : Int) > (↑xs.length : Int) then (↑ys.length : Int) else (↑xs.length : Int)
              else if (↑ys.length : Int) < (↑xs.length : Int) then (↑ys.length : Int) else (↑xs.length : Int)) -
              (1 : Int)) ≤
          (2 : Int) ^ (41 : Nat)))
    (PT.ite
      (cmpN xs ys
          (IntKind.i64.wrap
                ((if true = true then if (↑ys.length : Int) > (↑xs.length : Int) then (↑ys.length : Int) else (↑xs.length : Int)
                  else if (↑ys.length : Int) < (↑xs.length : Int) then (↑ys.length : Int) else (↑xs.length : Int)) -
                  (1 : Int)) +
              (1 : Int)).toNat ==
        (0 : Int))
      (PT.rq (1 : Nat) (PT.leaf (PE.out { vc := true, val := TV.lf (Leaf.int IntKind.i64 (0 : Int)) })))
      (PT.leaf
        (PE.out
          { vc := true,
            val :=
              TV.lf
                (Leaf.int IntKind.i64
                  (cmpN xs ys
                    (IntKind.i64.wrap
                          ((if true = true then if (↑ys.length : Int) > (↑xs.length : Int) then (↑ys.length : Int) else (↑xs.length : Int)
                            else if (↑ys.length : Int) < (↑xs.length : Int) then (↑ys.length : Int) else (↑xs.length : Int)) -
                            (1 : Int)) +
                        (1 : Int)).toNat)) })))) := by kernel_rfl


theorem cmp_loop : LoopOK pg (loopsTold cmpLoop) (lp 0 (codeOf f_nat_Cmp) 0) := by
  refine loop_see pg_mixed (T := tab [eAt, eCompare32]) (tab_sound ⟨at_ok, compare32_ok, trivial⟩) (b := 0) (len := 27) (body := (lp 0 (codeOf f_nat_Cmp) 0).2) (ch := cmpH) (cx := cmpX) (cr := cmpR)
    (fun x : (List Int × List Int) × Nat => ([D32 x.1.1, D32 x.1.2, I64 (x.2 - 1)], []))
    (fun x => x.2 ≤ 2 ^ 42) (fun x => x.2) (fun x => cmpAns x.1.1 x.1.2 x.2)
    regs_told (loops_told0 (by kernel_rfl)) cmpDec (fun _ => rfl) ?_ ?_
  · intro vs hp t h K hK
    unfold cmpDec at h
    split at h
    · rename_i xs ys i
      cases h
      obtain ⟨hc, hK⟩ := hK
      simp only [Bool.and_eq_true, decide_eq_true_eq] at hc
      refine ⟨((xs, ys), (i + 1).toNat), ?_, by simp only; omega, hK⟩
      have : (((i + 1).toNat : Nat) : Int) - 1 = i := by omega
      simp only [this]
    · cases h
  · rintro ⟨⟨xs, ys⟩, k⟩ h1 K hK
    simp only at h1 hK ⊢
    rw [cmp_round]
    simp only [PT.sat_rq, PT.sat_req, PT.sat_ite, PT.sat_leaf, decide_eq_true_eq, decide_eq_false_iff_not, bne_iff_ne, bne_eq_false_iff_eq]
    refine ⟨fun h0 => ⟨h0, h0, fun h2 => ?_, fun h2 => ?_⟩, fun h0 => ?_⟩
    · obtain ⟨j, rfl⟩ : ∃ j, k = j + 1 := ⟨k - 1, by omega⟩
      have e : ((j + 1 : Nat) : Int) - 1 = (j : Int) := by omega
      rw [e] at h2 ⊢
      have hN : cmpN xs ys (j + 1) = cmpI (dig xs j) (dig ys j) := by rw [cmpN, if_neg h2]
      unfold cmpAns at hK
      rw [hN] at hK
      exact hK.2 (by simpa using h2)
    · obtain ⟨j, rfl⟩ : ∃ j, k = j + 1 := ⟨k - 1, by omega⟩
      have e : ((j + 1 : Nat) : Int) - 1 = (j : Int) := by omega
      rw [e] at h2 ⊢
      have hN : cmpN xs ys (j + 1) = cmpN xs ys j := by rw [cmpN, if_pos h2]
      have w : IntKind.i64.wrap ((j : Int) - 1) = (j : Int) - 1 := i64_in (by omega)
      rw [w]
      refine ⟨((xs, ys), j), rfl, by simp only; omega, by simp only; omega, ?_⟩
      unfold cmpAns at hK ⊢
      rw [hN] at hK
      exact hK
    · obtain rfl : k = 0 := by omega
      exact hK.1 rfl

def aCmp : List TV → List Ent → Option CallRes
  | [.lf (.dat (.int .u32) xs), .lf (.dat (.int .u32) ys)], [] => some ⟨decide (xs.length ≤ 2 ^ 40) && decide (ys.length ≤ 2 ^ 40) && wfd B32 xs && wfd B32 ys, I64 (cmpI (val B32 xs) (val B32 ys)), [], [], false⟩
  | _, _ => none
def eCmp : Entry := .data n_nat_Cmp [L32, L32] aCmp

theorem cmp_ok : eCmp.ok pg := Entry.data_ok <| by
  intro args es r h hv
  unfold aCmp at h
  simp only at h
  split at h
  · rename_i xs ys
    cases h
    simp only [Bool.and_eq_true, decide_eq_true_eq] at hv
    obtain ⟨⟨⟨h1, h2⟩, h3⟩, h4⟩ := hv
    refine entry_ok (fn := f_nat_Cmp) pg_mixed (T := tab [eAt, eCompare32]) (tab_sound ⟨at_ok, compare32_ok, trivial⟩) (L := loopsTold cmpLoop) (by kernel_rfl) (by kernel_rfl) (by kernel_rfl) regs_told
      (loops_told1 (by kernel_rfl) cmp_loop) [] ?_
    simp only [List.length_nil]
    rw [cmp_nf]
    obtain ⟨n, hn, hn1, hn2, hn3⟩ : ∃ n : Nat, (IntKind.i64.wrap ((if true = true then if (ys.length : Int) > (xs.length : Int) then (ys.length : Int) else (xs.length : Int) else if (ys.length : Int) < (xs.length : Int) then (ys.length : Int) else (xs.length : Int)) - 1)) = (n : Int) - 1 ∧ xs.length ≤ n ∧ ys.length ≤ n ∧ n ≤ 2 ^ 40 := by
      refine ⟨max xs.length ys.length, ?_, by omega, by omega, by omega⟩
      rw [if_pos rfl, i64_in]
      · split <;> omega
      · split <;> omega
    rw [hn]
    have e1 : ((n : Int) - 1 + 1).toNat = n := by omega
    rw [e1, cmpN_all (b := B32) (by decide) h3 h4 hn1 hn2]
    simp only [PT.sat_rq, PT.sat_req, PT.sat_ite, PT.sat_leaf, decide_eq_true_eq, Bool.and_eq_true, beq_iff_eq, beq_eq_false_iff_ne]
    refine ⟨⟨by omega, by omega⟩, fun h => ?_, fun h => ?_⟩
    · rw [h]; simp
    · simp
  · cases h

end Go.Proofs.Ytlfdidaeachpoaa

/- Bits, with no program in sight. -/
namespace Go.Proofs.Ytlfdidaeachpoaa

/-- How many bits a number has. -/
def bl (n : Nat) : Nat := if n = 0 then 0 else n.log2 + 1

theorem bl_le {n k : Nat} : bl n ≤ k ↔ n < 2 ^ k := by
  unfold bl
  split
  · rename_i h
    subst h
    simp [Nat.pow_pos]
  · rename_i h
    rw [← Nat.log2_lt h]
    omega

theorem eq_of_le {a b : Nat} (h : ∀ k, a ≤ k ↔ b ≤ k) : a = b := Nat.le_antisymm ((h b).2 (Nat.le_refl _)) ((h a).1 (Nat.le_refl _))

theorem bl_shr (n j : Nat) : bl (n / 2 ^ j) = bl n - j := by
  refine eq_of_le fun k => ?_
  rw [bl_le, Nat.div_lt_iff_lt_mul (Nat.pow_pos (by decide)), ← Nat.pow_add, ← bl_le]
  omega

theorem bl_shr_add {n j : Nat} (h : 2 ^ j ≤ n) : bl n = j + bl (n / 2 ^ j) := by
  rw [bl_shr]
  have : ¬ bl n ≤ j := fun h' => by have := bl_le.1 h'; omega
  omega

theorem bl_digit {d v : Nat} (hd : d < 2 ^ 32) (hv : 0 < v) : bl (d + 4294967296 * v) = 32 + bl v := by
  rw [bl_shr_add (j := 32) (by omega)]
  congr 2
  omega

/-- How many digits a number has. -/
theorem digs_size {b : Nat} (hb : 2 ≤ b) {n : Nat} (hn : 0 < n) : ∃ m, (digs b n).length = m + 1 ∧ b ^ m ≤ n ∧ n < b ^ (m + 1) := by
  induction n using Nat.strongRecOn with
  | ind n ih =>
    rw [digs_pos hb hn]
    by_cases h : n / b = 0
    · rw [h, digs_zero]
      refine ⟨0, rfl, hn, ?_⟩
      rcases (Nat.div_eq_zero_iff).1 h with h1 | h1
      · omega
      · simpa using h1
    · obtain ⟨m, h1, h2, h3⟩ := ih (n / b) (Nat.div_lt_self hn hb) (Nat.pos_of_ne_zero h)
      refine ⟨m + 1, by simp [h1], ?_, ?_⟩
      · rw [Nat.pow_succ]
        exact (Nat.le_div_iff_mul_le (by omega)).1 h2
      · rw [Nat.pow_succ]
        exact (Nat.div_lt_iff_lt_mul (by omega)).1 h3

theorem digs_get {b : Nat} (hb : 2 ≤ b) (n i : Nat) : (digs b n).getD i 0 = ((n / b ^ i % b : Nat) : Int) := by
  rw [← val_digit (by omega) i (wfd_digs (by omega) n), val_digs hb]

theorem dig_digs {b : Nat} (hb : 2 ≤ b) (n i : Nat) : dig (digs b n) i = ((n / b ^ i % b : Nat) : Int) := by
  rw [dig_nat, digs_get hb]

theorem pow32 (m : Nat) : B32 ^ m = 2 ^ (32 * m) := by
  rw [Nat.pow_mul]

theorem bl_digs {n : Nat} (hn : 0 < n) : ∃ m, (digs B32 n).length = m + 1 ∧ (digs B32 n).getD m 0 = ((n / B32 ^ m : Nat) : Int) ∧ n / B32 ^ m < B32 ∧ bl n = 32 * m + bl (n / B32 ^ m) := by
  obtain ⟨m, h1, h2, h3⟩ := digs_size (b := B32) (by decide) hn
  have h4 : n / B32 ^ m < B32 := by
    rw [Nat.div_lt_iff_lt_mul (Nat.pow_pos (by decide)), Nat.mul_comm]
    rwa [Nat.pow_succ] at h3
  refine ⟨m, h1, by rw [digs_get (by decide), Nat.mod_eq_of_lt h4], h4, ?_⟩
  rw [pow32] at h2 ⊢
  exact bl_shr_add h2

theorem or_add {a b : Nat} (h : b < 2 ^ 32) : (a * 2 ^ 32) ||| b = a * 2 ^ 32 + b := by
  rw [← Nat.shiftLeft_eq, Nat.shiftLeft_add_eq_or_of_lt h]

end Go.Proofs.Ytlfdidaeachpoaa

/- Long numbers: bits, words. -/
namespace Go.Proofs.Ytlfdidaeachpoaa
open Go Go.RowKit
set_option maxRecDepth 100000

def len8L : List UInt8 := List.replicate 1 0 ++ (List.replicate 1 1 ++ (List.replicate 2 2 ++ (List.replicate 4 3 ++ (List.replicate 8 4 ++ (List.replicate 16 5 ++ (List.replicate 32 6 ++ (List.replicate 64 7 ++ List.replicate 128 8)))))))
def str_len8 : ByteArray := ⟨len8L.toArray⟩

theorem len32_nf (x : Int) : ((evFn pg (tab []) noLoops f_math_bits_Len32 (codeOf f_math_bits_Len32) [U32 x] []).pt (outEv pg f_math_bits_Len32 0 [] false)) =
    PT.rq (3 : Nat)
  (PT.ite (decide ((65536 : Int) ≤ x))
    (PT.rq (6 : Nat)
      (PT.ite (decide ((256 : Int) ≤ x.fdiv ((2 : Int) ^ min (Int.toNat (16 : Int)) IntKind.u32.bits)))
        (PT.rq (9 : Nat)
          (PT.req
            (decide ((0 : Int) ≤ IntKind.u8.wrap ((x.fdiv ((2 : Int) ^ min (Int.toNat (16 : Int)) IntKind.u32.bits)).fdiv ((2 : Int) ^ min (Int.toNat (8 : Int)) IntKind.u32.bits))) &&
              decide (IntKind.u8.wrap ((x.fdiv ((2 : Int) ^ min (Int.toNat (16 : Int)) IntKind.u32.bits)).fdiv ((2 : Int) ^ min (Int.toNat (8 : Int)) IntKind.u32.bits)) < (↑str_len8.size : Int)))
            (PT.rq (3 : Nat)
              (PT.leaf
                (PE.out
                  { vc := true,
                    val :=
                      TV.lf
                        (Leaf.int IntKind.i64
                          (IntKind.i64.wrap
                            (IntKind.i64.wrap ((16 : Int) + (8 : Int)) +
                              IntKind.i64.wrap
                                (byteAt str_len8
                                  (IntKind.u8.wrap ((x.fdiv ((2 : Int) ^ min (Int.toNat (16 : Int)) IntKind.u32.bits)).fdiv ((2 : Int) ^ min (Int.toNat (8 : Int)) IntKind.u32.bits))).toNat)))) })))))
        (PT.rq (3 : Nat)
          (PT.req
            (decide ((0 : Int) ≤ IntKind.u8.wrap (x.fdiv ((2 : Int) ^ min (Int.toNat (16 : Int)) IntKind.u32.bits))) &&
              decide (IntKind.u8.wrap (x.fdiv ((2 : Int) ^ min (Int.toNat (16 : Int)) IntKind.u32.bits)) < (↑str_len8.size : Int)))
            (PT.rq (3 : Nat)
              (PT.leaf
                (PE.out
                  { vc := true,
                    val :=
                      TV.lf
                        (Leaf.int IntKind.i64
                          (IntKind.i64.wrap ((16 : Int) + IntKind.i64.wrap (byteAt str_len8 (IntKind.u8.wrap (x.fdiv ((2 : Int) ^ min (Int.toNat (16 : Int)) IntKind.u32.bits))).toNat)))) })))))))
    (PT.rq (2 : Nat)
      (PT.ite (decide ((256 : Int) ≤ x))
        (PT.rq (9 : Nat)
          (PT.req
            (decide ((0 : Int) ≤ IntKind.u8.wrap (x.fdiv ((2 : Int) ^ min (Int.toNat (8 : Int)) IntKind.u32.bits))) &&
              decide (IntKind.u8.wrap (x.fdiv ((2 : Int) ^ min (Int.toNat (8 : Int)) IntKind.u32.bits)) < (↑str_len8.size : Int)))
            (PT.rq (3 : Nat)
              (PT.leaf
                (PE.out
                  { vc := true,
                    val :=
                      TV.lf
                        (Leaf.int IntKind.i64
                          (IntKind.i64.wrap
                            (IntKind.i64.wrap ((0 : Int) + (8 : Int)) +
                              IntKind.i64.wrap (byteAt str_len8 (IntKind.u8.wrap (x.fdiv ((2 : Int) ^ min (Int.toNat (8 : Int)) IntKind.u32.bits))).toNat)))) })))))
        (PT.rq (3 : Nat)
          (PT.req (decide ((0 : Int) ≤ IntKind.u8.wrap x) && decide (IntKind.u8.wrap x < (↑str_len8.size : Int)))
            (PT.rq (3 : Nat) (PT.leaf (PE.out { vc := true, val := TV.lf (Leaf.int IntKind.i64 (IntKind.i64.wrap ((0 : Int) + IntKind.i64.wrap (byteAt str_len8 (IntKind.u8.wrap x).toNat)))) })))))))) := by kernel_rfl


theorem len8_all : ∀ i, i < 256 → byteAt str_len8 i = (bl i : Int) := by decide +kernel
theorem len8_size : str_len8.size = 256 := by kernel_rfl

theorem shrN (n : Int) (k : IntKind) (j m : Nat) (h : min j k.bits = m) : n.fdiv ((2 : Int) ^ min j k.bits) = n / 2 ^ m := by
  rw [h, Int.fdiv_eq_ediv_of_nonneg _ (by exact Int.le_of_lt (Int.pow_pos (by decide)))]

theorem wrap_u8 (n : Int) : IntKind.u8.wrap n = n % 256 := by
  unfold IntKind.wrap
  have h1 : (2 : Int) ^ IntKind.u8.bits = 256 := rfl
  have h2 : IntKind.u8.signed = false := rfl
  simp only [h1, h2]
  simp

def aLen32 : List TV → List Ent → Option CallRes
  | [.lf (.int .u32 x)], [] => some ⟨decide (0 ≤ x) && decide (x < 4294967296), I64 (bl x.toNat), [], [], false⟩
  | _, _ => none
def eLen32 : Entry := ⟨n_math_bits_Len32, aLen32⟩

theorem len32_ok : eLen32.ok pg := by
  intro args es r h hv
  unfold eLen32 aLen32 at h
  simp only at h
  split at h
  · rename_i x
    cases h
    simp only [Bool.and_eq_true, decide_eq_true_eq] at hv
    obtain ⟨n, rfl⟩ := Int.eq_ofNat_of_zero_le hv.1
    have hn : n < 4294967296 := by omega
    refine entry_ok (fn := f_math_bits_Len32) pg_mixed (T := tab []) (tab_sound trivial) (L := noLoops) (by kernel_rfl) (by kernel_rfl) (by kernel_rfl) regs_told (loops_told0 (by kernel_rfl)) [] ?_
    simp only [List.length_nil]
    rw [len32_nf]
    rw [shrN (n : Int) .u32 _ 16 rfl, shrN ((n : Int) / 2 ^ 16) .u32 _ 8 rfl, shrN (n : Int) .u32 _ 8 rfl]
    have e1 : (n : Int) / 2 ^ 16 = ((n / 65536 : Nat) : Int) := by omega
    have e2 : ((n / 65536 : Nat) : Int) / 2 ^ 8 = ((n / 65536 / 256 : Nat) : Int) := by omega
    have e3 : (n : Int) / 2 ^ 8 = ((n / 256 : Nat) : Int) := by omega
    rw [e1, e2, e3]
    simp only [PT.sat_rq, PT.sat_req, PT.sat_ite, PT.sat_leaf, decide_eq_true_eq, decide_eq_false_iff_not, Bool.and_eq_true, wrap_u8, len8_size, Int.toNat_natCast]
    have b0 : ∀ m : Nat, m < 256 → ((m : Int) % 256) = (m : Int) := fun m hm => by omega
    have bb : ∀ m : Nat, m < 256 → bl m ≤ 8 := fun m hm => bl_le.2 (by omega)
    have key : ∀ (m : Nat) (c : Int), m < 256 → 0 ≤ c ∧ c ≤ 24 → IntKind.i64.wrap (c + IntKind.i64.wrap (byteAt str_len8 (((m : Int) % 256)).toNat)) = c + (bl m : Int) := fun m c hm hc => by
      have := bb m hm
      rw [b0 m hm, Int.toNat_natCast, len8_all m hm, i64_in, i64_in] <;> (try rw [i64_in]) <;> omega
    have w24 : IntKind.i64.wrap (16 + 8) = 24 := by rw [i64_in] <;> omega
    have w8 : IntKind.i64.wrap (0 + 8) = 8 := by rw [i64_in] <;> omega
    refine ⟨fun h1 => ⟨fun h2 => ⟨⟨by omega, by omega⟩, ?_, by first | rfl | trivial, by first | rfl | trivial⟩, fun h2 => ⟨⟨by omega, by omega⟩, ?_, by first | rfl | trivial, by first | rfl | trivial⟩⟩,
      fun h1 => ⟨fun h2 => ⟨⟨by omega, by omega⟩, ?_, by first | rfl | trivial, by first | rfl | trivial⟩, fun h2 => ⟨⟨by omega, by omega⟩, ?_, by first | rfl | trivial, by first | rfl | trivial⟩⟩⟩
    · rw [w24, key _ _ (by omega) (by omega), bl_shr_add (n := n) (j := 24) (by omega)]
      have : n / 65536 / 256 = n / 2 ^ 24 := by omega
      rw [this]
      rfl
    · rw [key _ _ (by omega) (by omega), bl_shr_add (n := n) (j := 16) (by omega)]
      rfl
    · rw [w8, key _ _ (by omega) (by omega), bl_shr_add (n := n) (j := 8) (by omega)]
      rfl
    · rw [key _ _ (by omega) (by omega)]
      simp
  · cases h

/-! nat.Bits, nat.Word -/
theorem bits_nf (xs : List Int) : ((evFn pg (tab [eCut, eLen32]) noLoops f_nat_Bits (codeOf f_nat_Bits) [D32 xs] []).pt (outEv pg f_nat_Bits 0 [] false)) =
    PT.rq (2 : Nat)
  (PT.req (decide (xs.length ≤ (2 : Nat) ^ (40 : Nat)) && wfd B32 xs)
    (PT.rq (4 : Nat)
      (PT.ite ((↑(digs B32 (val B32 xs)).length : Int) == (0 : Int)) (PT.rq (1 : Nat) (PT.leaf (PE.out { vc := true, val := TV.lf (Leaf.int IntKind.i64 (0 : Int)) })))
        (PT.rq (8 : Nat)
          (PT.req
            (decide ((0 : Int) ≤ IntKind.i64.wrap ((↑(digs B32 (val B32 xs)).length : Int) - (1 : Int))) &&
              decide (IntKind.i64.wrap ((↑(digs B32 (val B32 xs)).length : Int) - (1 : Int)) < (↑(digs B32 (val B32 xs)).length : Int)))
            (PT.rq (1 : Nat)
              (PT.req
                (decide ((0 : Int) ≤ (digs B32 (val B32 xs)).getD (IntKind.i64.wrap ((↑(digs B32 (val B32 xs)).length : Int) - (1 : Int))).toNat (0 : Int)) &&
                  decide ((digs B32 (val B32 xs)).getD (IntKind.i64.wrap ((↑(digs B32 (val B32 xs)).length : Int) - (1 : Int))).toNat (0 : Int) < (4294967296 : Int)))
                (PT.rq (2 : Nat)
                  (PT.leaf
                    (PE.out
                      { vc := true,
                        val :=
                          TV.lf
                            (Leaf.int IntKind.i64
                              (IntKind.i64.wrap
                                (IntKind.i64.wrap ((32 : Int) * IntKind.i64.wrap ((↑(digs B32 (val B32 xs)).length : Int) - (1 : Int))) +
                                  (↑(bl (Int.toNat ((digs B32 (val B32 xs)).getD (IntKind.i64.wrap ((↑(digs B32 (val B32 xs)).length : Int) - (1 : Int))).toNat (0 : Int)))) : Int)))) })))))))))) := by kernel_rfl


def aBits : List TV → List Ent → Option CallRes
  | [.lf (.dat (.int .u32) xs)], [] => some ⟨decide (xs.length ≤ 2 ^ 40) && wfd B32 xs, I64 (bl (val B32 xs)), [], [], false⟩
  | _, _ => none
def eBits : Entry := .data n_nat_Bits [L32] aBits

theorem bits_ok : eBits.ok pg := Entry.data_ok <| by
  intro args es r h hv
  unfold aBits at h
  simp only at h
  split at h
  · rename_i xs
    cases h
    simp only [Bool.and_eq_true, decide_eq_true_eq] at hv
    refine entry_ok (fn := f_nat_Bits) pg_mixed (T := tab [eCut, eLen32]) (tab_sound ⟨cut_ok, len32_ok, trivial⟩) (L := noLoops) (by kernel_rfl) (by kernel_rfl) (by kernel_rfl) regs_told (loops_told0 (by kernel_rfl)) [] ?_
    simp only [List.length_nil]
    rw [bits_nf]
    have hle : (digs B32 (val B32 xs)).length ≤ xs.length := digs_len (by decide) (val_lt (by decide) hv.2)
    simp only [PT.sat_rq, PT.sat_req, PT.sat_ite, PT.sat_leaf, decide_eq_true_eq, decide_eq_false_iff_not, Bool.and_eq_true, beq_iff_eq, beq_eq_false_iff_ne]
    refine ⟨hv, fun h => ?_, fun h => ?_⟩
    · have h0 : (digs B32 (val B32 xs)) = [] := List.eq_nil_of_length_eq_zero (by omega)
      have : val B32 xs = 0 := by rw [← val_digs (b := B32) (by decide) (val B32 xs), h0]; rfl
      rw [this]
      exact ⟨rfl, by first | rfl | trivial, by first | rfl | trivial⟩
    · have hpos : 0 < val B32 xs := by
        apply Nat.pos_of_ne_zero
        intro h0
        rw [h0] at h
        exact h rfl
      obtain ⟨m, h1, h2, h3, h4⟩ := bl_digs hpos
      have hb : bl (val B32 xs / B32 ^ m) ≤ 32 := bl_le.2 h3
      have e1 : IntKind.i64.wrap (((digs B32 (val B32 xs)).length : Int) - 1) = (m : Int) := by rw [i64_in] <;> omega
      rw [e1, Int.toNat_natCast, h2, Int.toNat_natCast]
      have e2 : IntKind.i64.wrap (32 * (m : Int)) = 32 * (m : Int) := i64_in (by omega)
      have e3 : IntKind.i64.wrap (32 * (m : Int) + (bl (val B32 xs / B32 ^ m) : Int)) = ((bl (val B32 xs) : Nat) : Int) := by rw [i64_in] <;> omega
      rw [e2, e3]
      have h3' : val B32 xs / B32 ^ m < 4294967296 := h3
      generalize val B32 xs / B32 ^ m = q at *
      exact ⟨⟨by omega, by omega⟩, ⟨by omega, by omega⟩, rfl, by first | rfl | trivial, by first | rfl | trivial⟩
  · cases h

theorem word_nf (xs : List Int) : ((evFn pg (tab [eBits, eAt]) noLoops f_nat_Word (codeOf f_nat_Word) [D32 xs] []).pt (outEv pg f_nat_Word 0 [] false)) =
    PT.rq (3 : Nat)
  (PT.req (decide (xs.length ≤ (2 : Nat) ^ (40 : Nat)) && wfd B32 xs)
    (PT.rq (1 : Nat)
      (PT.ite (decide ((64 : Int) < (↑(bl (val B32 xs)) : Int)))
        (PT.rq (2 : Nat) (PT.leaf (PE.out { vc := true, val := TV.tup [(false, [Leaf.int IntKind.u64 (0 : Int)]), (false, [Leaf.bool false])] })))
        (PT.rq (10 : Nat)
          (PT.leaf
            (PE.out
              { vc := true,
                val :=
                  TV.tup
                    [(false,
                        [Leaf.int IntKind.u64
                            (ibit BinOp.or IntKind.u64 (IntKind.u64.wrap (IntKind.u64.wrap (dig xs (1 : Int)) * (2 : Int) ^ min (Int.toNat (32 : Int)) IntKind.u64.bits))
                              (IntKind.u64.wrap (dig xs (0 : Int))))]),
                      (false, [Leaf.bool true])] })))))) := by kernel_rfl


theorem ibit_or {x y : Nat} (hx : x < 2 ^ 64) (hy : y < 2 ^ 64) : ibit .or .u64 x y = ((x ||| y : Nat) : Int) := by
  unfold ibit
  have e : ∀ z : Nat, z < 2 ^ 64 → (BitVec.ofInt IntKind.u64.bits (z : Int)).toNat = z := fun z hz => by
    rw [BitVec.toNat_ofInt]
    have : (2 : Nat) ^ IntKind.u64.bits = 18446744073709551616 := rfl
    rw [this]
    omega
  simp only [BitVec.toNat_or, e x hx, e y hy]
  rw [u64_in]
  have := Nat.or_lt_two_pow hx hy
  omega

theorem word_split {v : Nat} (h : v < 2 ^ 64) : v / B32 % B32 * 2 ^ 32 + v % B32 = v := by
  show v / 4294967296 % 4294967296 * 2 ^ 32 + v % 4294967296 = v
  omega

def aWord : List TV → List Ent → Option CallRes
  | [.lf (.dat (.int .u32) xs)], [] => some ⟨decide (xs.length ≤ 2 ^ 40) && wfd B32 xs,
      .tup [(false, [.int .u64 (if val B32 xs < 2 ^ 64 then (val B32 xs : Int) else 0)]), (false, [.bool (decide (val B32 xs < 2 ^ 64))])], [], [], false⟩
  | _, _ => none
def eWord : Entry := .data n_nat_Word [L32] aWord

theorem word_ok : eWord.ok pg := Entry.data_ok <| by
  intro args es r h hv
  unfold aWord at h
  simp only at h
  split at h
  · rename_i xs
    cases h
    simp only [Bool.and_eq_true, decide_eq_true_eq] at hv
    refine entry_ok (fn := f_nat_Word) pg_mixed (T := tab [eBits, eAt]) (tab_sound ⟨bits_ok, at_ok, trivial⟩) (L := noLoops) (by kernel_rfl) (by kernel_rfl) (by kernel_rfl) regs_told (loops_told0 (by kernel_rfl)) [] ?_
    simp only [List.length_nil]
    rw [word_nf]
    simp only [PT.sat_rq, PT.sat_req, PT.sat_ite, PT.sat_leaf, decide_eq_true_eq, decide_eq_false_iff_not, Bool.and_eq_true]
    refine ⟨hv, fun h => ?_, fun h => ?_⟩
    · have h1 : ¬ val B32 xs < 2 ^ 64 := fun h' => by
        have := bl_le.2 h'
        omega
      rw [if_neg h1, decide_eq_false h1]
      exact ⟨rfl, by first | rfl | trivial, by first | rfl | trivial⟩
    · have h1 : val B32 xs < 2 ^ 64 := bl_le.1 (by omega)
      rw [if_pos h1, decide_eq_true h1]
      have d0 := dig_val (b := B32) (by decide) hv.2 0
      have d1 := dig_val (b := B32) (by decide) hv.2 1
      simp only [Int.natCast_zero, Nat.pow_zero, Nat.div_one, Nat.pow_one] at d0 d1
      have m0 : val B32 xs % B32 < 4294967296 := Nat.mod_lt _ (by decide)
      have m1 : val B32 xs / B32 % B32 < 4294967296 := Nat.mod_lt _ (by decide)
      have d1' : dig xs 1 = ((val B32 xs / B32 % B32 : Nat) : Int) := d1
      refine ⟨?_, by first | rfl | trivial, by first | rfl | trivial⟩
      rw [d0, d1']
      have m0' : IntKind.u64.wrap ((val B32 xs % B32 : Nat) : Int) = ((val B32 xs % B32 : Nat) : Int) := u64_in (by omega)
      have m1' : IntKind.u64.wrap ((val B32 xs / B32 % B32 : Nat) : Int) = ((val B32 xs / B32 % B32 : Nat) : Int) := u64_in (by omega)
      have p32 : (2 : Int) ^ min (Int.toNat (32 : Int)) IntKind.u64.bits = 4294967296 := rfl
      have this := word_split h1
      generalize val B32 xs / B32 % B32 = y1 at *
      generalize val B32 xs % B32 = y0 at *
      rw [m0', m1', p32]
      have e : (y1 : Int) * 4294967296 = ((y1 * 2 ^ 32 : Nat) : Int) := by omega
      rw [e, u64_in (by omega), ibit_or (by omega) (by omega), or_add (by omega)]
      rw [this]
  · cases h

end Go.Proofs.Ytlfdidaeachpoaa

/- Long multiplication, with no program in sight. -/
namespace Go.Proofs.Ytlfdidaeachpoaa

theorem val_set {b : Nat} : ∀ {xs : List Int} {i : Nat} {d : Int}, i < xs.length → val b (xs.set i d) + b ^ i * (xs.getD i 0).toNat = val b xs + b ^ i * d.toNat
  | [], i, d, h => by simp at h
  | x :: xs, 0, d, _ => by simp [val]; omega
  | x :: xs, i + 1, d, h => by
    have := val_set (b := b) (xs := xs) (i := i) (d := d) (by simpa using h)
    simp only [List.set_cons_succ, val, List.getD_cons_succ, Nat.pow_succ]
    have e : ∀ t, b ^ i * b * t = b * (b ^ i * t) := fun t => by rw [Nat.mul_comm (b ^ i) b, Nat.mul_assoc]
    rw [e, e]
    have h2 : b * (val b (xs.set i d) + b ^ i * (xs.getD i 0).toNat) = b * (val b xs + b ^ i * d.toNat) := by rw [this]
    rw [Nat.mul_add, Nat.mul_add] at h2
    omega

/-- One row of a product: 'r' digits of 'ys' from the k-th on, times 'x', laid on at place 'i'. -/
def rowN (b : Nat) (x : Int) (ys : List Int) (i : Nat) : Nat → Nat → List Int → Int → List Int × Int
  | 0, _, out, o => (out, o)
  | r + 1, k, out, o => rowN b x ys i r (k + 1) (out.set (i + k) ((o + (x * ys.getD k 0 + out.getD (i + k) 0)) % b)) ((o + (x * ys.getD k 0 + out.getD (i + k) 0)) / b)

theorem step_bd {b x y z o : Int} (hx : 0 ≤ x ∧ x < b) (hy : 0 ≤ y ∧ y < b) (hz : 0 ≤ z ∧ z < b) (ho : 0 ≤ o ∧ o < b) : 0 ≤ o + (x * y + z) ∧ o + (x * y + z) < b * b := by
  have h1 : 0 ≤ x * y := Int.mul_nonneg hx.1 hy.1
  have h2 : x * y ≤ (b - 1) * (b - 1) := Int.mul_le_mul (by omega) (by omega) hy.1 (by omega)
  have h3 : (b - 1) * (b - 1) = b * b - 2 * b + 1 := by
    rw [Int.sub_mul, Int.mul_sub, Int.one_mul, Int.mul_one]
    omega
  omega

structure RowOK (b : Nat) (x : Int) (ys : List Int) (i r k : Nat) (out : List Int) (o : Int) : Prop where
  wf : wfd b (rowN b x ys i r k out o).1 = true
  len : (rowN b x ys i r k out o).1.length = out.length
  bd : 0 ≤ (rowN b x ys i r k out o).2 ∧ (rowN b x ys i r k out o).2 < b
  val : val b (rowN b x ys i r k out o).1 + b ^ (i + k + r) * (rowN b x ys i r k out o).2.toNat = val b out + b ^ (i + k) * (o.toNat + x.toNat * val b ((ys.drop k).take r))

theorem rowN_ok {b : Nat} (hb : 2 ≤ b) {x : Int} (hx : 0 ≤ x ∧ x < b) {ys : List Int} (hy : wfd b ys = true) {i : Nat} : ∀ (r k : Nat) (out : List Int) (o : Int), k + r ≤ ys.length → i + k + r ≤ out.length → wfd b out = true → (0 ≤ o ∧ o < b) → RowOK b x ys i r k out o
  | 0, k, out, o, _, _, hw, ho => ⟨hw, rfl, ho, by simp [rowN, val]⟩
  | r + 1, k, out, o, h1, h2, hw, ho => by
    have y := wfd_get (by omega : 0 < b) hy k
    have z := wfd_get (by omega : 0 < b) hw (i + k)
    have s := step_bd hx y z ho
    generalize hs : o + (x * ys.getD k 0 + out.getD (i + k) 0) = t at *
    have q1 : 0 ≤ t % (b : Int) ∧ t % (b : Int) < b := ⟨Int.emod_nonneg _ (by omega), Int.emod_lt_of_pos _ (by omega)⟩
    have q2 : 0 ≤ t / (b : Int) ∧ t / (b : Int) < b := ⟨Int.ediv_nonneg s.1 (by omega), Int.ediv_lt_of_lt_mul (by omega) s.2⟩
    obtain ⟨a1, a2, a3, a4⟩ := rowN_ok hb hx hy (i := i) r (k + 1) (out.set (i + k) (t % b)) (t / b) (by omega) (by rw [List.length_set]; omega) (wfd_set hw q1) q2
    have e : rowN b x ys i (r + 1) k out o = rowN b x ys i r (k + 1) (out.set (i + k) (t % b)) (t / b) := by rw [rowN, hs]
    refine ⟨by rw [e]; exact a1, by rw [e, a2, List.length_set], by rw [e]; exact a3, ?_⟩
    rw [e, show i + k + (r + 1) = i + (k + 1) + r by omega, a4]
    have v := val_set (b := b) (xs := out) (i := i + k) (d := t % b) (by omega)
    have hd : (ys.drop k).take (r + 1) = ys.getD k 0 :: (ys.drop (k + 1)).take r := by
      have hk : k < ys.length := by omega
      rw [List.drop_eq_getElem_cons hk, List.take_succ_cons, List.getD, List.getElem?_eq_getElem hk]
      rfl
    rw [hd]
    simp only [val]
    generalize val b ((ys.drop (k + 1)).take r) = w at *
    generalize val b (out.set (i + k) (t % (b : Int))) = v1 at *
    generalize val b out = v0 at *
    rw [show i + (k + 1) = i + k + 1 by omega, Nat.pow_succ]
    generalize b ^ (i + k) = p at *
    -- numbers alone
    have t1 : (t % (b : Int)).toNat + b * (t / (b : Int)).toNat = t.toNat := by
      have := Int.emod_add_mul_ediv t b
      have h3 : ((b * (t / (b : Int)).toNat : Nat) : Int) = b * (t / b) := by rw [Int.natCast_mul, Int.toNat_of_nonneg q2.1]
      omega
    have t2 : t.toNat = o.toNat + (x.toNat * (ys.getD k 0).toNat + (out.getD (i + k) 0).toNat) := by
      have h3 : ((x.toNat * (ys.getD k 0).toNat : Nat) : Int) = x * ys.getD k 0 := by rw [Int.natCast_mul, Int.toNat_of_nonneg hx.1, Int.toNat_of_nonneg y.1]
      omega
    generalize (t % (b : Int)).toNat = tm at *
    generalize (t / (b : Int)).toNat = td at *
    generalize (ys.getD k 0).toNat = yk at *
    generalize (out.getD (i + k) 0).toNat = ok at *
    have e1 : p * b * (td + x.toNat * w) = p * (b * td) + p * (x.toNat * (b * w)) := by
      rw [Nat.mul_add, Nat.mul_assoc, Nat.mul_assoc, Nat.mul_left_comm b x.toNat w]
    have e2 : p * (o.toNat + x.toNat * (yk + b * w)) + p * ok = p * t.toNat + p * (x.toNat * (b * w)) := by
      rw [t2, ← Nat.mul_add, ← Nat.mul_add, Nat.mul_add x.toNat]
      congr 1
      omega
    have e3 : p * t.toNat = p * tm + p * (b * td) := by rw [← t1, Nat.mul_add]
    rw [e1]
    omega

/-- The rows of a product, 'r' of them from the i-th on. -/
def mulN (b : Nat) (xs ys : List Int) : Nat → Nat → List Int → List Int
  | 0, _, out => out
  | r + 1, i, out => mulN b xs ys r (i + 1) ((rowN b (xs.getD i 0) ys i ys.length 0 out 0).1.set (i + ys.length) (rowN b (xs.getD i 0) ys i ys.length 0 out 0).2)

theorem mulN_ok {b : Nat} (hb : 2 ≤ b) {xs ys : List Int} (hx : wfd b xs = true) (hy : wfd b ys = true) : ∀ (r i : Nat) (out : List Int), i + r = xs.length → out.length = xs.length + ys.length → wfd b out = true → val b out < b ^ (i + ys.length) →
    wfd b (mulN b xs ys r i out) = true ∧ (mulN b xs ys r i out).length = xs.length + ys.length ∧ val b (mulN b xs ys r i out) = val b out + b ^ i * (val b (xs.drop i) * val b ys)
  | 0, i, out, h1, h2, h3, _ => ⟨h3, h2, by rw [List.drop_of_length_le (by omega)]; simp [mulN, val]⟩
  | r + 1, i, out, h1, h2, h3, h4 => by
    have x := wfd_get (by omega : 0 < b) hx i
    have hi : i < xs.length := by omega
    obtain ⟨a1, a2, a3, a4⟩ := rowN_ok hb x hy (i := i) ys.length 0 out 0 (by omega) (by omega) h3 ⟨Int.le_refl _, by omega⟩
    have hz : ((rowN b (xs.getD i 0) ys i ys.length 0 out 0).1.getD (i + ys.length) 0).toNat = 0 := by
      -- digits from that place on are those of 'out'
      have same : ∀ (r k : Nat) (out : List Int) (o : Int) (j : Nat), i + k + r ≤ j → (rowN b (xs.getD i 0) ys i r k out o).1.getD j 0 = out.getD j 0 := by
        intro r
        induction r with
        | zero => intro k out o j _; rfl
        | succ r ih =>
          intro k out o j hj
          rw [rowN, ih (k + 1) _ _ j (by omega)]
          simp only [List.getD, List.getElem?_set_ne (show i + k ≠ j by omega)]
      rw [same ys.length 0 out 0 (i + ys.length) (by omega)]
      have := val_digit (by omega : 0 < b) (i + ys.length) h3
      rw [Nat.div_eq_of_lt h4, Nat.zero_mod] at this
      rw [← this]
      rfl
    have v2 := val_set (b := b) (xs := (rowN b (xs.getD i 0) ys i ys.length 0 out 0).1) (i := i + ys.length) (d := (rowN b (xs.getD i 0) ys i ys.length 0 out 0).2) (by rw [a2]; omega)
    rw [hz, Nat.mul_zero, Nat.add_zero] at v2
    simp only [Nat.add_zero, Int.toNat_zero, Nat.zero_add, List.drop_zero, List.take_length] at a4
    rw [← v2] at a4
    have hw := wfd_set (i := i + ys.length) a1 a3
    generalize hgen : (rowN b (xs.getD i 0) ys i ys.length 0 out 0).1.set (i + ys.length) (rowN b (xs.getD i 0) ys i ys.length 0 out 0).2 = out' at *
    have hl : out'.length = xs.length + ys.length := by
      rw [← hgen, List.length_set, a2, h2]
    have hbound : val b out' < b ^ (i + 1 + ys.length) := by
      rw [a4]
      have y := val_lt (by omega : 0 < b) hy
      have hxn : (xs.getD i 0).toNat + 1 ≤ b := by omega
      have m1 : (xs.getD i 0).toNat * val b ys + val b ys ≤ b * val b ys := by
        rw [← Nat.succ_mul]
        exact Nat.mul_le_mul_right _ hxn
      have m2 : b * (val b ys + 1) ≤ b * b ^ ys.length := Nat.mul_le_mul_left _ y
      have m3 : b ^ i * (((xs.getD i 0).toNat * val b ys) + b ^ ys.length) ≤ b ^ i * (b * b ^ ys.length) := by
        apply Nat.mul_le_mul_left
        rw [Nat.mul_add] at m2
        have m4 : (xs.getD i 0).toNat * val b ys ≤ (b - 1) * val b ys := Nat.mul_le_mul_right _ (by omega)
        have m5 : (b - 1) * val b ys + b ^ ys.length ≤ (b - 1) * b ^ ys.length + b ^ ys.length := by
          have : (b - 1) * val b ys ≤ (b - 1) * b ^ ys.length := Nat.mul_le_mul_left _ (by omega)
          omega
        have m6 : (b - 1) * b ^ ys.length + b ^ ys.length = b * b ^ ys.length := by
          rw [← Nat.succ_mul]
          congr 1
          omega
        omega
      rw [Nat.mul_add, ← Nat.pow_add] at m3
      have m7 : b ^ i * (b * b ^ ys.length) = b ^ (i + 1 + ys.length) := by
        rw [Nat.pow_add, Nat.pow_succ, Nat.mul_assoc]
      omega
    obtain ⟨c1, c2, c3⟩ := mulN_ok hb hx hy r (i + 1) out' (by omega) hl hw hbound
    have e : mulN b xs ys (r + 1) i out = mulN b xs ys r (i + 1) out' := by rw [mulN, hgen]
    rw [e]
    refine ⟨c1, c2, ?_⟩
    rw [c3, a4]
    have hd : xs.drop i = xs.getD i 0 :: xs.drop (i + 1) := by
      rw [List.drop_eq_getElem_cons hi, List.getD, List.getElem?_eq_getElem hi]
      rfl
    rw [hd]
    simp only [val]
    rw [Nat.pow_succ, Nat.add_mul, Nat.mul_add, Nat.mul_assoc, Nat.mul_assoc, Nat.add_assoc]

theorem mulN_val {b : Nat} (hb : 2 ≤ b) {xs ys : List Int} (hx : wfd b xs = true) (hy : wfd b ys = true) :
    wfd b (mulN b xs ys xs.length 0 (List.replicate (xs.length + ys.length) 0)) = true ∧ (mulN b xs ys xs.length 0 (List.replicate (xs.length + ys.length) 0)).length = xs.length + ys.length ∧
      val b (mulN b xs ys xs.length 0 (List.replicate (xs.length + ys.length) 0)) = val b xs * val b ys := by
  obtain ⟨h1, h2, h3⟩ := mulN_ok hb hx hy xs.length 0 (List.replicate (xs.length + ys.length) 0) (by omega) (by simp) (wfd_replicate (by omega)) (by rw [val_replicate]; exact Nat.pow_pos (by omega))
  refine ⟨h1, h2, ?_⟩
  rw [h3, val_replicate]
  simp

end Go.Proofs.Ytlfdidaeachpoaa
