/- The verification condition of code; the translation of the model's code into abstract code. Nothing is proved here. -/
import Derived.Test.YtadmdmhocglkfaaAbsD
import Derived.Orders
set_option linter.unusedSimpArgs false
set_option linter.unusedVariables false
namespace Go.Proofs.Ytadmdmhocglkfaa.Abs
open Go

/-- A value tells of no object from n on. -/
def below (n : Nat) : SV → Bool
  | .osl o _ _ _ => decide (o < n)
  | .ref o _ _ _ => decide (o < n)
  | .agg false l => l.all fun x => match x with
    | .osl o _ _ _ => decide (o < n)
    | .ref o _ _ _ => decide (o < n)
    | .agg false _ => false
    | _ => true
  | _ => true

/-- A state that says less: a slot forgotten; the last objects forgotten; a nil slice as a slice of a new, empty object. -/
inductive Wk : St → St → Prop
  | refl (s : St) : Wk s s
  | trans {a b c : St} : Wk a b → Wk b c → Wk a c
  | slots (s : St) (l : List SV) : l.length = s.sl.length → (∀ (i : Nat) (v : SV), l[i]? = some v → v = SV.junk ∨ s.sl[i]? = some v) → Wk s { s with sl := l }
  | trunc (s : St) (n : Nat) : (∀ v ∈ s.sl, below n v = true) → (∀ ob ∈ s.hp.take n, ob.box = true → ob.cl = false → ∀ r ∈ ob.els, ∀ x ∈ r, below n x = true) → Wk s { s with hp := s.hp.take n }
  | ghost (s : St) (i sz : Nat) : s.sl[i]? = some .nils →
      Wk s { sl := s.sl.set i (.osl s.hp.length 0 0 0), hp := s.hp ++ [{ box := false, sz := sz, els := [], frz := 0, gen := 0, cl := true }] }

def vcIter (body : (AE → St → Prop) → St → Prop) (Q : AE → St → Prop) : Nat → St → Prop
  | 0, _ => False
  | n + 1, s => ∃ s0, Wk s s0 ∧ body (fun e s' => match e with | .normal => vcIter body Q n s' | e => Q e s') s0

def vc (C : Nat → List SV → SV → Prop) : AC → (AE → St → Prop) → St → Prop
  | .skip, Q, s => Q .normal s
  | .reg ops draw, Q, s => if draw then vcDr C ops s [] True (Q .normal) else vcOps C ops s (Q .normal)
  | .seq a b, Q, s => vc C a (fun e s' => match e with | .normal => vc C b Q s' | e => Q e s') s
  | .cond c a b, Q, s => match s.get c with
    | .bool t => gs t s (vc C a Q) (vc C b Q)
    | _ => False
  | .blk id b, Q, s => vc C b (fun e s' => match e with | .exit j => if j = id then Q .normal s' else Q (.exit j) s' | e => Q e s') s
  | .loop b, Q, s => ∃ n, vcIter (fun Q' s' => vc C b Q' s') Q n s
  | .exit id, Q, s => Q (.exit id) s
  | .ret, Q, s => Q .ret s

def retv1 (s : St) : AR → Option (Prop × SV × List Ob)
  | .t i => match closeV s.hp (s.sl.getD i .undef) with
    | some (v, h) => some (True, v, h)
    | none => none
  | .cell i ag n => match absLoad s.hp ag n (s.sl.getD i .undef) with
    | some e => match closeV e.hp e.val with
      | some (v, h) => some (e.ob, v, h)
      | none => none
    | none => none

def retvs (s : St) : List AR → Option (Prop × List SV × List Ob)
  | [] => some (True, [], s.hp)
  | r :: rs => match retv1 s r with
    | some (p, v, h) => match retvs { s with hp := h } rs with
      | some (q, vs, h') => some (p ∧ q, v :: vs, h')
      | none => none
    | none => none

/-- The function hands back r. -/
def retIs (rs : List AR) (r : SV) (s : St) : Prop :=
  match retvs s rs with
  | some (p, vs, _) => p ∧ r = (match vs with | [v] => v | vs => .tup vs)
  | none => False

def vcF (C : Nat → List SV → SV → Prop) (f : AF) (args : List SV) (r : SV) : Prop :=
  vc C f.body (fun e s => match e with | .exit _ => False | _ => retIs f.res r s) { sl := args ++ List.replicate (f.ntmps - args.length) .undef, hp := [] }

/-! ### The translation -/
def ofVal : Value → Option SV
  | .bool b => some (.bool b)
  | .int k n => some (.int k n)
  | .float k b => some (.float k b)
  | .string s => some (.str s)
  | .pointer none => some .nilp
  | .slice none 0 0 => some .nils
  | .agg cs => match cs.toList.mapM (fun v => match v with
      | .bool b => some (SV.bool b) | .int k n => some (.int k n) | .float k b => some (.float k b) | .string s => some (.str s)
      | .pointer none => some .nilp | .slice none 0 0 => some .nils | _ => none) with
    | some l => some (.agg true l)
    | none => none
  | _ => none

def trX : Operand → Option AX
  | .tmp t => some (.t t)
  | .const v => (ofVal v).map .c
  | .func f => some (.c (.fn f))
  | _ => none

def isAggT (P : Program) (t : TypeId) : Option Bool :=
  match P.underlying t with
  | some (.struct _) => some true
  | some (.array _ _) => some true
  | some _ => some false
  | none => none

def zeroT (P : Program) (t : TypeId) : Option SV := ((P.info? t).bind (·.zero)).bind ofVal

def elemT (P : Program) (t : TypeId) : Option TypeId :=
  match P.underlying t with
  | some (.slice e) => some e
  | _ => none

def fieldT (P : Program) (t : TypeId) (i : Nat) : Option Field :=
  match P.underlying t with
  | some (.struct fs) => fs[i]?
  | _ => none

def trParts (P : Program) (t : TypeId) : List (Nat × Operand) → Option (List (Nat × Nat × AX))
  | [] => some []
  | (i, x) :: r => do
    let f ← fieldT P t i
    let n := P.cellsOf f.type
    let x' ← trX x
    let r' ← trParts P t r
    pure ((f.offset, n, x') :: r')

def trRow (k : Nat) : List (Nat × Operand) → Option (List AX)
  | [] => some []
  | (i, x) :: r => if i = k then do
      let x' ← trX x
      let r' ← trRow (k + 1) r
      pure (x' :: r') else none

def trXs : List Operand → Option (List AX)
  | [] => some []
  | x :: r => do
    let x' ← trX x
    let r' ← trXs r
    pure (x' :: r')

def trOX : Option Operand → Option (Option AX)
  | none => some none
  | some x => (trX x).map some

/-- The functions of such parameters. -/
def canCall (P : Program) (ts : Array TypeId) : List Nat :=
  (List.range P.funcs.size).filter fun f => match P.funcs[f]? with
    | some fn => fn.params == ts && (fn.body.isSome && fn.name != "runtime.NumGoroutine")
    | none => false

def trOp (P : Program) : Op → Option AOp
  | .move x => (trX x).map .mv
  | .assign x => (trX x).map .mv
  | .pick c a b => do pure (.pick (← trX c) (← trX a) (← trX b))
  | .alloc t => (zeroT P t).map fun z => .new (cellsOf z)
  | .box _ x => (trX x).map .box
  | .build t parts =>
    match P.underlying t with
    | some (.struct fs) => do
      let z ← zeroT P t
      let ps ← trParts P t parts.toList
      if fs.toList.all (fun f => (P.info? f.type).isSome) && ps.all (fun p => p.1 + p.2.1 ≤ (cellsOf z).length && 0 < p.2.1) then pure (.build (cellsOf z) ps) else none
    | _ => none
  | .buildSlice t len parts => do
    let e ← elemT P t
    let xs ← trRow 0 parts.toList
    if xs.length = len ∧ 0 < P.cellsOf e ∧ len * P.cellsOf e ≤ 2 ^ 24 ∧ (zeroT P e).isSome ∧ ((zeroT P e).map fun z => (cellsOf z).length) = some (P.cellsOf e) then pure (.bslice (P.cellsOf e) xs) else none
  | .load t a => do
    let ag ← isAggT P t
    let x ← trX a
    if ag = true ∨ P.cellsOf t = 1 then pure (.load ag (P.cellsOf t) x) else none
  | .store t a x => do
    let ag ← isAggT P t
    let a' ← trX a
    let x' ← trX x
    if (ag = true ∨ P.cellsOf t = 1) ∧ 0 < P.cellsOf t then pure (.store (P.cellsOf t) a' x') else none
  | .nilCheck x => (trX x).map .nilck
  | .binOp op t x y _ =>
    match P.underlying t with
    | some (.int _) => do pure (.bin 0 op (← trX x) (← trX y))
    | some .bool => do pure (.bin 1 op (← trX x) (← trX y))
    | some (.float _) => do pure (.bin 3 op (← trX x) (← trX y))
    | some (.pointer _) => do pure (.bin 2 op (← trX x) (← trX y))
    | _ => none
  | .unOp op _ x => (trX x).map (.un op)
  | .convert a b x =>
    match P.underlying a, P.underlying b with
    | some (.int _), some (.int k) => (trX x).map (.conv k)
    | _, _ => none
  | .makeSlice t l c => do
    let e ← elemT P t
    let z ← zeroT P e
    if (cellsOf z).length = P.cellsOf e ∧ 0 < P.cellsOf e then pure (.mk (P.cellsOf e) (P.bytesOf e) (cellsOf z) (← trX l) (← trX c)) else none
  | .slice t x lo hi none =>
    match P.underlying t with
    | some (.slice e) => do
      if (P.info? e).isSome ∧ 0 < P.cellsOf e then pure (.slc (P.cellsOf e) (← trX x) (← trOX lo) (← trOX hi)) else none
    | some .string => do pure (.slc 0 (← trX x) (← trOX lo) (← trOX hi))
    | _ => none
  | .fieldAddr t x i => do
    let f ← fieldT P t i
    if P.cellsOf f.type = 0 then none else pure (.fad f.offset (← trX x))
  | .field t x i => do
    let f ← fieldT P t i
    let ag ← isAggT P f.type
    if ag = true ∨ P.cellsOf f.type = 1 then pure (.fld ag f.offset (P.cellsOf f.type) (← trX x)) else none
  | .indexAddr t x i => do
    let e ← elemT P t
    if 0 < P.cellsOf e then pure (.iad (P.cellsOf e) (← trX x) (← trX i)) else none
  | .extract x i => (trX x).map fun x' => .ext x' i
  | .call c =>
    match c.callee, c.args.toList with
    | .builtin .len, [x] =>
      if c.argTypes.size = 0 then none else
      match P.underlying (c.argTypes.getD 0 0) with
      | some (.slice _) => (trX x).map (.len false)
      | some .string => (trX x).map (.len true)
      | _ => none
    | .builtin .append, [s, x] => do
      let e ← elemT P (c.argTypes.getD 0 0)
      let z ← zeroT P e
      if c.argTypes = #[c.argTypes.getD 0 0, c.argTypes.getD 0 0] ∧ 0 < P.cellsOf e ∧ (cellsOf z).length = P.cellsOf e then pure (.app (P.cellsOf e) (P.bytesOf e) (← trX s) (← trX x)) else none
    | .builtin .max, [x, y] => do pure (.mnx true (← trX x) (← trX y))
    | .builtin .min, [x, y] => do pure (.mnx false (← trX x) (← trX y))
    | .value (.func f), xs => match P.funcs[f]? with
      | some fn => if fn.body.isSome ∧ fn.name ≠ "runtime.NumGoroutine" then (trXs xs).map (.call f) else none
      | none => none
    | .value (.tmp t), xs => (trXs xs).map (.callv (canCall P c.argTypes) (.t t))
    | _, _ => none
  | _ => none

def trOper (P : Program) (ops : Array Oper) (o : Oper) : Option AOper :=
  match trOp P o.op with
  | some op => match o.guard with
    | none => some { d := o.dst, op := op, g := none }
    | some (j, want) => match (ops[j]?).bind (·.dst) with
      | some t => some { d := o.dst, op := op, g := some (t, want) }
      | none => none
  | none => none

def trOps (P : Program) (ops : Array Oper) : List Oper → Option (List AOper)
  | [] => some []
  | o :: r => do
    let o' ← trOper P ops o
    let r' ← trOps P ops r
    pure (o' :: r')

/-- Which operations stand ahead of one, as bits. -/
def msk (acc : List Nat) : List Edge → Nat
  | [] => 0
  | e :: r => if Region.binds .any e then msk acc r ||| 2 ^ e.on ||| acc.getD e.on 0 else msk acc r
def msks : List Oper → List Nat → List Nat
  | [], acc => acc
  | o :: r, acc => msks r (acc ++ [msk acc o.after.toList])

/-- Two operations that may run in any order, for all that their kinds tell. -/
def fineS (x y : AOp) : Bool := !touches x || !touches y || (reader x && reader y)

def annot (m : List Nat) (l : List AOper) : List AOper :=
  let at_ : Nat → Nat → Bool := fun i j => !(m.getD j 0).testBit i && (match l[i]?, l[j]? with
    | some x, some y => !fineS x.op y.op
    | _, _ => false)
  l.zipIdx.map fun (o, k) => { o with id := k, chk := (List.range k).filter fun i => at_ i k, fp := (List.range l.length).any fun j => decide (k < j) && at_ k j }

/-- What a drawn region must show. -/
def okDraw (ops : Array Oper) (l : List AOper) : Bool :=
  let m := msks ops.toList []
  l.length == ops.size && (ops.toList.zipIdx.all fun (o, i) => o.after.toList.all fun e => !Region.binds .any e || decide (e.on < i)) &&
  (List.range l.length).all fun j => (List.range j).all fun i =>
    match ops[i]?, ops[j]?, l[i]?, l[j]? with
    | some x, some y, some a, some b => (m.getD j 0).testBit i || (Oper.apart ops x y && (fineS a.op b.op || (a.fp && a.id == i && b.chk.contains i)))
    | _, _, _, _ => false

def trC (P : Program) : Code → Option AC
  | .skip => some .skip
  | .region _ ops draw => do
    let l ← trOps P ops ops.toList
    if draw then
      let l' := annot (msks ops.toList []) l
      if okDraw ops l' then pure (.reg l' true) else none
    else pure (.reg l false)
  | .seq a b => do pure (.seq (← trC P a) (← trC P b))
  | .cond c a b => do pure (.cond (← trX c) (← trC P a) (← trC P b))
  | .block id b => do pure (.blk id (← trC P b))
  | .loop b => do pure (.loop (← trC P b))
  | .exit id => some (.exit id)
  | .ret => some .ret
  | _ => none

def trR (P : Program) : List ResultVar → Option (List AR)
  | [] => some []
  | .tmp t :: r => do pure (.t t :: (← trR P r))
  | .cell a t :: r => do
    let ag ← isAggT P t
    if ag = true ∨ P.cellsOf t = 1 then pure (.cell a ag (P.cellsOf t) :: (← trR P r)) else none

def trF (P : Program) (f : Func) : Option AF :=
  match f.body with
  | some c => do pure { ntmps := f.ntmps, res := ← trR P f.results.toList, body := ← trC P c }
  | none => none
end Go.Proofs.Ytadmdmhocglkfaa.Abs
