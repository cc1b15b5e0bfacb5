/- The abstract evaluator: values, objects, operations, code, and the verification condition 'vc'. No program in sight; nothing is proved here. -/
import GoSem.Step
set_option linter.unusedSimpArgs false
set_option linter.unusedVariables false
namespace Go.Proofs.Ytadmdmhocglkfaa.Abs
open Go

/-- Abstract values. 'dsl sz l': a slice that nobody writes, its elements as rows of sz cells. 'dref': a pointer into such an element. 'osl o g off len', 'ref o g e c': a slice of, a pointer into, the object o (as of its generation g). 'agg b l': a struct's cells; b: it holds no part of an object. -/
inductive SV where
  | junk
  | undef
  | bool (b : Bool)
  | int (k : IntKind) (n : Int)
  | float (k : FloatKind) (b : Nat)
  | str (s : ByteArray)
  | nilp
  | nils
  | ref (o g e c : Nat)
  | dref (sz : Nat) (cells : List SV) (c : Nat)
  | osl (o g off len : Nat)
  | dsl (sz : Nat) (l : List (List SV))
  | agg (b : Bool) (l : List SV)
  | tup (l : List SV)
  | fn (f : Nat)
  deriving Inhabited

/-- An object: a box (one element) or the row of a slice; its elements below frz are written no more. -/
structure Ob where
  box : Bool
  sz : Nat
  els : List (List SV)
  frz : Nat
  gen : Nat
  cl : Bool
  deriving Inhabited

structure St where
  sl : List SV
  hp : List Ob

inductive AX where
  | t (i : Nat)
  | c (v : SV)

inductive AOp where
  | mv (x : AX)
  | pick (c a b : AX)
  | new (cells : List SV)
  | box (x : AX)
  | build (zero : List SV) (parts : List (Nat × Nat × AX))
  | bslice (sz : Nat) (parts : List AX)
  | load (ag : Bool) (n : Nat) (a : AX)
  | store (n : Nat) (a x : AX)
  | nilck (x : AX)
  | bin (kd : Nat) (op : BinOp) (x y : AX)
  | un (op : UnOp) (x : AX)
  | conv (k : IntKind) (x : AX)
  | mk (sz bytes : Nat) (zero : List SV) (l c : AX)
  | slc (sz : Nat) (x : AX) (lo hi : Option AX)
  | fad (off : Nat) (x : AX)
  | fld (ag : Bool) (off n : Nat) (x : AX)
  | iad (sz : Nat) (x i : AX)
  | len (st : Bool) (x : AX)
  | app (sz bytes : Nat) (s x : AX)
  | call (f : Nat) (args : List AX)
  | callv (fs : List Nat) (x : AX) (args : List AX)
  | ext (x : AX) (i : Nat)
  | mnx (mx : Bool) (x y : AX)

structure AOper where
  d : Option Nat
  op : AOp
  g : Option (Nat × Bool)
  id : Nat := 0
  fp : Bool := false
  chk : List Nat := []

inductive AC where
  | skip
  | reg (ops : List AOper) (draw : Bool)
  | seq (a b : AC)
  | cond (c : AX) (a b : AC)
  | blk (id : Nat) (b : AC)
  | loop (b : AC)
  | exit (id : Nat)
  | ret

inductive AR where
  | t (i : Nat)
  | cell (i : Nat) (ag : Bool) (n : Nat)

structure AF where
  ntmps : Nat
  res : List AR
  body : AC

inductive AE where
  | normal
  | exit (id : Nat)
  | ret

def St.get (s : St) : AX → SV
  | .t i => s.sl.getD i .undef
  | .c v => v

def St.put (s : St) (d : Option Nat) (v : SV) : St :=
  match d with
  | some i => { s with sl := s.sl.set i v }
  | none => s

/-- Cells of a value. -/
def cellsOf : SV → List SV
  | .agg _ l => l
  | v => [v]

/-- Holds a value no part of an object? -/
def SV.closed : SV → Bool
  | .junk => false
  | .undef => false
  | .ref .. => false
  | .osl .. => false
  | .agg b _ => b
  | .tup _ => false
  | _ => true

def SV.ok : SV → Bool
  | .junk => false
  | .undef => false
  | .tup _ => false
  | _ => true

/-- n cells from c on of an element of sz cells. -/
def cut (cl : Bool) (sz : Nat) (ag : Bool) (n c : Nat) (cells : List SV) : SV :=
  if ag then (if n = sz then .agg cl cells else .agg cl ((cells.drop c).take n)) else cells.getD c .undef

/-- The element with n cells from c on replaced. -/
def splice (sz n c : Nat) (cells new : List SV) : List SV :=
  if n = sz then new else if n = 1 then cells.set c (new.getD 0 .undef) else cells.take c ++ new ++ cells.drop (c + n)

def fz (hp : List Ob) (o : Nat) (ob : Ob) : List Ob := hp.set o { ob with frz := ob.els.length }

/-- A cell as a value that holds no part of an object; the objects that it held are written no more. -/
def closeC (hp : List Ob) : SV → Option (SV × List Ob)
  | .osl o g off len =>
    match hp[o]? with
    | some ob => if ob.box = false ∧ ob.gen = g then some (.dsl ob.sz ((ob.els.drop off).take len), fz hp o ob) else none
    | none => none
  | .junk => none
  | .undef => none
  | .ref .. => none
  | .agg false _ => none
  | .tup _ => none
  | v => some (v, hp)

def closeCs (hp : List Ob) : List SV → Option (List SV × List Ob)
  | [] => some ([], hp)
  | c :: r =>
    match closeC hp c with
    | some (c', h1) => match closeCs h1 r with
      | some (r', h2) => some (c' :: r', h2)
      | none => none
    | none => none

def closeV (hp : List Ob) (v : SV) : Option (SV × List Ob) :=
  match v with
  | .agg false l =>
    match closeCs hp l with
    | some (l', h) => some (.agg true l', h)
    | none => none
  | .ref o g e c =>
    match hp[o]? with
    | some ob =>
      if ob.box = true ∧ ob.gen = g ∧ e = 0 then
        if ob.cl then some (.dref ob.sz (ob.els.getD 0 []) c, fz hp o ob)
        else match closeCs hp (ob.els.getD 0 []) with
          | some (l', h) => some (.dref ob.sz l' c, h.set o { ob with els := [l'], frz := 1, cl := true })
          | none => none
      else none
    | none => none
  | v => closeC hp v

def closeVs (hp : List Ob) : List SV → Option (List SV × List Ob)
  | [] => some ([], hp)
  | c :: r =>
    match closeV hp c with
    | some (c', h1) => match closeVs h1 r with
      | some (r', h2) => some (c' :: r', h2)
      | none => none
    | none => none

/-- What an operation does: what must hold, its value, the objects behind it, and what may be taken for granted then. -/
structure Eff where
  ob : Prop
  val : SV
  hp : List Ob
  as : Prop := True

def intBin (op : BinOp) (k : IntKind) (a b : Int) : Option SV :=
  match op with
  | .add => some (.int k (k.wrap (a + b)))
  | .sub => some (.int k (k.wrap (a - b)))
  | .mul => some (.int k (k.wrap (a * b)))
  | .eql => some (.bool (a == b))
  | .neq => some (.bool (a != b))
  | .lss => some (.bool (decide (a < b)))
  | .leq => some (.bool (decide (a ≤ b)))
  | .gtr => some (.bool (decide (a > b)))
  | .geq => some (.bool (decide (a ≥ b)))
  | _ => none

def fltBin (op : BinOp) (k : FloatKind) (a b : Nat) : Option SV :=
  match op with
  | .eql => some (.bool (k.format.order a b == some .eq))
  | .neq => some (.bool (k.format.order a b != some .eq))
  | .lss => some (.bool (k.format.order a b == some .lt))
  | .leq => some (.bool (k.format.order a b == some .lt || k.format.order a b == some .eq))
  | .gtr => some (.bool (k.format.order a b == some .gt))
  | .geq => some (.bool (k.format.order a b == some .gt || k.format.order a b == some .eq))
  | _ => none

/-- kd: of which type the operands are: 0: integers; 1: bools; 2: pointers, one of them nil; 3: floats. -/
def eqB (op : BinOp) (b : Bool) : Option SV :=
  match op with
  | .eql => some (.bool b)
  | .neq => some (.bool (!b))
  | _ => none

def evBin (kd : Nat) (op : BinOp) : SV → SV → Option SV
  | .int k a, .int k' b => if kd = 0 ∧ k = k' then intBin op k a b else none
  | .bool a, .bool b => if kd = 1 then eqB op (a == b) else none
  | .float k a, .float k' b => if kd = 3 ∧ k = k' then fltBin op k a b else none
  | .ref .., .nilp => if kd = 2 then eqB op false else none
  | .dref .., .nilp => if kd = 2 then eqB op false else none
  | .nilp, .nilp => if kd = 2 then eqB op true else none
  | _, _ => none

/-- The elements of a slice. -/
def elsOf (hp : List Ob) (sz : Nat) : SV → Option (List (List SV))
  | .nils => some []
  | .dsl s l => if s = sz then some l else none
  | .osl o g off len =>
    match hp[o]? with
    | some ob => if ob.box = false ∧ ob.gen = g ∧ ob.sz = sz then some ((ob.els.drop off).take len) else none
    | none => none
  | _ => none

/-- Parts that are closed, one behind the other, as rows. -/
def closeRows (hp : List Ob) : List SV → Option (List (List SV) × List Ob)
  | [] => some ([], hp)
  | c :: r =>
    match closeV hp c with
    | some (c', h1) => match closeRows h1 r with
      | some (r', h2) => some (cellsOf c' :: r', h2)
      | none => none
    | none => none

def partsOk : List (Nat × Nat × SV) → Prop
  | [] => True
  | (_, n, v) :: r => v.ok = true ∧ (cellsOf v).length = n ∧ partsOk r

def fill (cells : List SV) : List (Nat × Nat × SV) → List SV
  | [] => cells
  | (off, n, v) :: r => fill (splice cells.length n off cells (cellsOf v)) r

def St.val (s : St) (o : Option SV) : Option Eff :=
  match o with
  | some v => some { ob := True, val := v, hp := s.hp }
  | none => none

def absLoad (hp : List Ob) (ag : Bool) (n : Nat) : SV → Option Eff
  | .ref o g e c =>
    match hp[o]? with
    | some ob => if ob.gen = g then some { ob := e < ob.els.length ∧ c + n ≤ ob.sz, val := cut (!ob.box || ob.cl) ob.sz ag n c (ob.els.getD e []), hp := hp } else none
    | none => none
  | .dref sz cells c => some { ob := c + n ≤ sz, val := cut true sz ag n c cells, hp := hp }
  | _ => none

def absStore (hp : List Ob) (n : Nat) (a x : SV) : Option Eff :=
  match a with
  | .ref o g e c =>
    match hp[o]? with
    | some ob =>
      if ob.gen = g then
        if ob.box then
          some { ob := e = 0 ∧ ob.frz = 0 ∧ c + n ≤ ob.sz ∧ x.ok = true ∧ (cellsOf x).length = n, val := .undef,
                 hp := hp.set o { ob with els := [splice ob.sz n c (ob.els.getD 0 []) (cellsOf x)], cl := x.closed && (ob.cl || n == ob.sz) } }
        else match closeV hp x with
          | some (x', h) => match h[o]? with
            | some ob' => if ob'.gen = g ∧ ob'.box = false then some { ob := e < ob'.els.length ∧ ob'.frz ≤ e ∧ c + n ≤ ob'.sz ∧ (cellsOf x').length = n ∧ x'.ok = true, val := .undef, hp := h.set o { ob' with els := ob'.els.set e (splice ob'.sz n c (ob'.els.getD e []) (cellsOf x')) } } else none
            | none => none
          | none => none
      else none
    | none => none
  | _ => none

def absApp (hp : List Ob) (sz bytes : Nat) (s x : SV) : Option Eff :=
  match elsOf hp sz x with
  | some xs =>
    match s with
    | .nils => some { ob := xs.length ≠ 0 ∧ xs.length * bytes ≤ 140737488355328 ∧ xs.length ≤ 140737488355328, val := .osl hp.length 0 0 xs.length, hp := hp ++ [{ box := false, sz := sz, els := xs, frz := 0, gen := 0, cl := true }] }
    | .osl o g off len =>
      match hp[o]? with
      | some ob =>
        if ob.box = false ∧ ob.gen = g ∧ ob.sz = sz ∧ off = 0 then
          some { ob := len = ob.els.length ∧ (len + xs.length) * bytes ≤ 140737488355328 ∧ len + xs.length ≤ 140737488355328,
                 val := .osl o (g + 1) 0 (len + xs.length), hp := hp.set o { ob with els := ob.els ++ xs, frz := ob.els.length, gen := g + 1 } }
        else none
      | none => none
    | _ => none
  | none => none

def absIad (hp : List Ob) (sz : Nat) : SV → SV → Option (Prop × SV)
  | .osl o g off len, .int _ i =>
    match hp[o]? with
    | some ob => if ob.sz = sz then some (0 ≤ i ∧ i < len, .ref o g (off + i.toNat) 0) else none
    | none => none
  | .dsl s l, .int _ i => if s = sz then some (0 ≤ i ∧ i < l.length, .dref sz (l.getD i.toNat []) 0) else none
  | _, _ => none

def absLen (hp : List Ob) : Bool → SV → Option Eff
  | false, .nils => some { ob := True, val := .int .i64 0, hp := hp }
  | false, .dsl _ l => some { ob := True, val := .int .i64 l.length, hp := hp, as := l.length ≤ 140737488355328 }
  | false, .osl _ _ _ len => some { ob := True, val := .int .i64 len, hp := hp }
  | true, .str s => some { ob := True, val := .int .i64 s.size, hp := hp }
  | _, _ => none

def bound (s : St) : Option AX → Nat → Option (Prop × Nat)
  | none, d => some (True, d)
  | some x, d => match s.get x with
    | .int _ i => some (0 ≤ i ∧ i ≤ d, i.toNat)
    | _ => none

/-- The lower bound of a cut, where none is written: 0. -/
def loB (s : St) : Option AX → Nat → Option (Prop × Nat)
  | none, _ => some (True, 0)
  | some x, d => bound s (some x) d

def absSlc (s : St) (z : Nat) (x : SV) (lo hi : Option AX) : Option Eff :=
  match x with
  | .dsl sz l =>
    if z = 0 ∨ sz ≠ z then none else
    match bound s hi l.length with
    | some (p, h) => match loB s lo h with
      | some (q, n) => some { ob := p ∧ q, val := .dsl sz ((l.drop n).take (h - n)), hp := s.hp }
      | none => none
    | none => none
  | .osl o g off len =>
    match s.hp[o]? with
    | some ob =>
      if z = 0 ∨ ob.sz ≠ z then none else
      match bound s hi len with
      | some (p, h) => match loB s lo h with
        | some (q, n) => some { ob := p ∧ q, val := .osl o g (off + n) (h - n), hp := s.hp }
        | none => none
      | none => none
    | none => none
  | .str b =>
    if z ≠ 0 then none else
    match bound s hi b.size with
    | some (p, h) => match loB s lo h with
      | some (q, n) => some { ob := p ∧ q, val := .str (b.extract n h), hp := s.hp }
      | none => none
    | none => none
  | _ => none

/-- An operation that is no call. -/
def absOp (s : St) : AOp → Option Eff
  | .mv x => s.val (some (s.get x))
  | .pick c a b => match s.get c with
    | .bool t => s.val (some (if t then s.get a else s.get b))
    | _ => none
  | .new cells => some { ob := True, val := .ref s.hp.length 0 0 0, hp := s.hp ++ [{ box := true, sz := cells.length, els := [cells], frz := 0, gen := 0, cl := true }] }
  | .box x => some { ob := (s.get x).ok = true, val := .ref s.hp.length 0 0 0, hp := s.hp ++ [{ box := true, sz := (cellsOf (s.get x)).length, els := [cellsOf (s.get x)], frz := 0, gen := 0, cl := (s.get x).closed }] }
  | .build zero parts => some { ob := partsOk (parts.map fun p => (p.1, p.2.1, s.get p.2.2)), val := .agg (parts.all fun p => (s.get p.2.2).closed) (fill zero (parts.map fun p => (p.1, p.2.1, s.get p.2.2))), hp := s.hp }
  | .bslice sz parts => match closeRows s.hp (parts.map s.get) with
    | some (rows, h) => some { ob := ∀ r ∈ rows, r.length = sz, val := .osl h.length 0 0 rows.length, hp := h ++ [{ box := false, sz := sz, els := rows, frz := 0, gen := 0, cl := true }] }
    | none => none
  | .load ag n a => absLoad s.hp ag n (s.get a)
  | .store n a x => absStore s.hp n (s.get a) (s.get x)
  | .nilck x => match s.get x with
    | .ref o g e c => s.val (some (.ref o g e c))
    | .dref z l c => s.val (some (.dref z l c))
    | _ => none
  | .bin kd op x y => s.val (evBin kd op (s.get x) (s.get y))
  | .un op x => match op, s.get x with
    | .not, .bool b => s.val (some (.bool (!b)))
    | .neg, .int k n => s.val (some (.int k (k.wrap (0 - n))))
    | _, _ => none
  | .conv k x => match s.get x with
    | .int _ n => s.val (some (.int k (k.wrap n)))
    | _ => none
  | .mk sz bytes zero l c => match s.get l, s.get c with
    | .int _ l, .int _ c => some { ob := 0 ≤ l ∧ l ≤ c ∧ c * bytes ≤ 140737488355328 ∧ c ≤ 140737488355328, val := .osl s.hp.length 0 0 l.toNat,
                                   hp := s.hp ++ [{ box := false, sz := sz, els := List.replicate l.toNat zero, frz := 0, gen := 0, cl := true }] }
    | _, _ => none
  | .slc z x lo hi => absSlc s z (s.get x) lo hi
  | .fad off x => match s.get x with
    | .ref o g e c => s.val (some (.ref o g e (c + off)))
    | .dref z l c => s.val (some (.dref z l (c + off)))
    | _ => none
  | .fld ag off n x => match s.get x with
    | .agg b l => some { ob := off + n ≤ l.length, val := cut b (l.length + 1) ag n off l, hp := s.hp }
    | _ => none
  | .iad sz x i => match absIad s.hp sz (s.get x) (s.get i) with
    | some (p, v) => some { ob := p, val := v, hp := s.hp }
    | none => none
  | .len st x => absLen s.hp st (s.get x)
  | .app sz bytes a x => absApp s.hp sz bytes (s.get a) (s.get x)
  | .ext x i => match s.get x with
    | .tup l => match l[i]? with
      | some v => s.val (some v)
      | none => none
    | _ => none
  | .mnx mx x y => match s.get x, s.get y with
    | .int k a, .int _ b => s.val (some (.int k (if mx then (if b > a then b else a) else (if b < a then b else a))))
    | _, _ => none
  | .call .. => none
  | .callv .. => none

def idsC : SV → List Nat
  | .osl o _ _ _ => [o]
  | .ref o _ _ _ => [o]
  | _ => []

/-- The objects that a value leads to. -/
def idsV (hp : List Ob) : SV → List Nat
  | .agg false l => l.flatMap idsC
  | .ref o _ _ _ => o :: (match hp[o]? with | some ob => if ob.cl then [] else (ob.els.getD 0 []).flatMap idsC | none => [])
  | s => idsC s

def idsVs (hp : List Ob) : List SV → List Nat
  | [] => []
  | c :: r => idsV hp c ++ (match closeV hp c with | some (_, h1) => idsVs h1 r | none => [])

/-- The objects that an operation looks at or writes. -/
def usesO (s : St) : AOp → List Nat
  | .load _ _ a => idsC (s.get a)
  | .store _ a x => idsC (s.get a) ++ idsV s.hp (s.get x)
  | .app _ _ a x => idsC (s.get a) ++ idsC (s.get x)
  | .bslice _ ps => idsVs s.hp (ps.map s.get)
  | .slc _ x _ _ => idsC (s.get x)
  | .iad _ x _ => idsC (s.get x)
  | .call _ args => idsVs s.hp (args.map s.get)
  | .callv _ _ args => idsVs s.hp (args.map s.get)
  | _ => []

/-- Does an operation bring forth an object? -/
def creates (s : St) : AOp → Bool
  | .new _ => true
  | .box _ => true
  | .bslice .. => true
  | .mk .. => true
  | .app _ _ a _ => match s.get a with
    | .nils => true
    | _ => false
  | _ => false

/-- Does it only read? -/
def reader : AOp → Bool
  | .load .. => true
  | .slc .. => true
  | .iad .. => true
  | _ => false

/-- Does it look at objects at all? -/
def touches : AOp → Bool
  | .load .. => true
  | .store .. => true
  | .app .. => true
  | .bslice .. => true
  | .slc .. => true
  | .iad .. => true
  | .call .. => true
  | .callv .. => true
  | .new _ => true
  | .box _ => true
  | .mk .. => true
  | _ => false

/-- The objects that it touches; those that it may turn. -/
def touchD (s : St) (op : AOp) : List Nat := usesO s op ++ (if creates s op then [s.hp.length] else [])
def chgD (s : St) (op : AOp) : List Nat := if reader op then [] else touchD s op

def apartD (s1 : St) (op1 : AOp) (s2 : St) (op2 : AOp) : Prop := (∀ x ∈ chgD s1 op1, x ∉ touchD s2 op2) ∧ (∀ x ∈ touchD s1 op1, x ∉ chgD s2 op2)

/-- Two ways, by a Bool. -/
def gs (b : Bool) (s : St) (X Y : St → Prop) : Prop := (b = true → X s) ∧ (b = false → Y s)

theorem gs_true {s : St} {X Y : St → Prop} : gs true s X Y = X s := by simp [gs]
theorem gs_false {s : St} {X Y : St → Prop} : gs false s X Y = Y s := by simp [gs]
theorem gs_not {b : Bool} {s : St} {X Y : St → Prop} : gs (!b) s X Y = gs b s Y X := by cases b <;> simp [gs]

/-- One operation. -/
def vc1 (C : Nat → List SV → SV → Prop) (o : AOper) (s : St) (K : St → Prop) : Prop :=
  match o.op with
  | .call f args =>
    match closeVs s.hp (args.map s.get) with
    | some (vs, h) => ∃ r, C f vs r ∧ K ({ s with hp := h }.put o.d r)
    | none => False
  | .callv fs x args =>
    match s.get x with
    | .fn f => if fs.contains f then (match closeVs s.hp (args.map s.get) with
      | some (vs, h) => ∃ r, C f vs r ∧ K ({ s with hp := h }.put o.d r)
      | none => False) else False
    | _ => False
  | .pick c a b => match s.get c with
    | .bool t => gs t s (fun s => K (s.put o.d (s.get a))) (fun s => K (s.put o.d (s.get b)))
    | _ => False
  | op => match absOp s op with
    | some e => e.ob ∧ (e.as → K ({ s with hp := e.hp }.put o.d e.val))
    | none => False

def vcOps (C : Nat → List SV → SV → Prop) : List AOper → St → (St → Prop) → Prop
  | [], s, K => K s
  | o :: rest, s, K =>
    match o.g with
    | none => vc1 C o s fun s' => vcOps C rest s' K
    | some (t, want) =>
      match s.sl.getD t .undef with
      | .bool b => gs (b == want) s (fun s => vc1 C o s fun s' => vcOps C rest s' K) (fun s => vcOps C rest (s.put o.d .undef) K)
      | .undef => vcOps C rest (s.put o.d .undef) K
      | _ => False

/-! Regions whose order is drawn: what their operations touch is kept apart, where the code does not order them. -/
def stepD (C : Nat → List SV → SV → Prop) (o : AOper) (s : St) (K : St → Prop → Prop) : Prop :=
  match o.op with
  | .call f args =>
    match closeVs s.hp (args.map s.get) with
    | some (vs, h) => ∃ r, C f vs r ∧ K ({ s with hp := h }.put o.d r) True
    | none => False
  | .callv fs x args =>
    match s.get x with
    | .fn f => if fs.contains f then (match closeVs s.hp (args.map s.get) with
      | some (vs, h) => ∃ r, C f vs r ∧ K ({ s with hp := h }.put o.d r) True
      | none => False) else False
    | _ => False
  | .pick c a b => match s.get c with
    | .bool t => gs t s (fun s => K (s.put o.d (s.get a)) True) (fun s => K (s.put o.d (s.get b)) True)
    | _ => False
  | op => match absOp s op with
    | some e => e.ob ∧ K ({ s with hp := e.hp }.put o.d e.val) e.as
    | none => False

def clear (o : AOper) (s : St) (fps : List (Nat × AOp × St)) : Prop :=
  match o.chk with
  | [] => True
  | l => ∀ q ∈ fps, q.1 ∈ l → apartD q.2.2 q.2.1 s o.op

def vcDr (C : Nat → List SV → SV → Prop) : List AOper → St → List (Nat × AOp × St) → Prop → (St → Prop) → Prop
  | [], s, _, p, K => p → K s
  | o :: rest, s, fps, p, K =>
    match o.g with
    | none => clear o s fps ∧ stepD C o s fun s' q => vcDr C rest s' (if o.fp then (o.id, o.op, s) :: fps else fps) (p ∧ q) K
    | some (t, want) =>
      match s.sl.getD t .undef with
      | .bool b => gs (b == want) s (fun s => clear o s fps ∧ stepD C o s fun s' q => vcDr C rest s' (if o.fp then (o.id, o.op, s) :: fps else fps) (p ∧ q) K) (fun s => vcDr C rest (s.put o.d .undef) fps p K)
      | .undef => vcDr C rest (s.put o.d .undef) fps p K
      | _ => False
end Go.Proofs.Ytadmdmhocglkfaa.Abs
