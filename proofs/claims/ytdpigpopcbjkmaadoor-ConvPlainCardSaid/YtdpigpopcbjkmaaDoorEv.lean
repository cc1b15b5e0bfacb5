/- The rules of evaluation, gathered under one name. -/
import Derived.Test.YtdpigpopcbjkmaaDoorTm
import Derived.Attr
set_option linter.unusedSimpArgs false
set_option linter.unusedVariables false
namespace Go.Proofs.YtdpigpopcbjkmaaDoor.Abs
open Go Go.RowKit
theorem cv_bool {hp : List Ob} (b : Bool) : closeV hp (.bool b) = some ((.bool b), hp) := Eq.trans rfl rfl
theorem cc_bool {hp : List Ob} (b : Bool) : closeC hp (.bool b) = some ((.bool b), hp) := Eq.trans rfl rfl
theorem iv_bool {hp : List Ob} (b : Bool) : idsV hp (.bool b) = [] := Eq.trans rfl rfl
theorem ic_bool (b : Bool) : idsC (.bool b) = [] := Eq.trans rfl rfl
theorem cl_bool (b : Bool) : SV.closed (.bool b) = true := Eq.trans rfl rfl
theorem ok_bool (b : Bool) : SV.ok (.bool b) = true := Eq.trans rfl rfl
theorem gp_bool (b : Bool) : isGp (.bool b) = false := Eq.trans rfl rfl
theorem ce_bool (b : Bool) : cellsOf (.bool b) = [(.bool b)] := Eq.trans rfl rfl
theorem cv_int {hp : List Ob} (k : IntKind) (n : Int) : closeV hp (.int k n) = some ((.int k n), hp) := Eq.trans rfl rfl
theorem cc_int {hp : List Ob} (k : IntKind) (n : Int) : closeC hp (.int k n) = some ((.int k n), hp) := Eq.trans rfl rfl
theorem iv_int {hp : List Ob} (k : IntKind) (n : Int) : idsV hp (.int k n) = [] := Eq.trans rfl rfl
theorem ic_int (k : IntKind) (n : Int) : idsC (.int k n) = [] := Eq.trans rfl rfl
theorem cl_int (k : IntKind) (n : Int) : SV.closed (.int k n) = true := Eq.trans rfl rfl
theorem ok_int (k : IntKind) (n : Int) : SV.ok (.int k n) = true := Eq.trans rfl rfl
theorem gp_int (k : IntKind) (n : Int) : isGp (.int k n) = false := Eq.trans rfl rfl
theorem ce_int (k : IntKind) (n : Int) : cellsOf (.int k n) = [(.int k n)] := Eq.trans rfl rfl
theorem cv_float {hp : List Ob} (k : FloatKind) (n : Nat) : closeV hp (.float k n) = some ((.float k n), hp) := Eq.trans rfl rfl
theorem cc_float {hp : List Ob} (k : FloatKind) (n : Nat) : closeC hp (.float k n) = some ((.float k n), hp) := Eq.trans rfl rfl
theorem iv_float {hp : List Ob} (k : FloatKind) (n : Nat) : idsV hp (.float k n) = [] := Eq.trans rfl rfl
theorem ic_float (k : FloatKind) (n : Nat) : idsC (.float k n) = [] := Eq.trans rfl rfl
theorem cl_float (k : FloatKind) (n : Nat) : SV.closed (.float k n) = true := Eq.trans rfl rfl
theorem ok_float (k : FloatKind) (n : Nat) : SV.ok (.float k n) = true := Eq.trans rfl rfl
theorem gp_float (k : FloatKind) (n : Nat) : isGp (.float k n) = false := Eq.trans rfl rfl
theorem ce_float (k : FloatKind) (n : Nat) : cellsOf (.float k n) = [(.float k n)] := Eq.trans rfl rfl
theorem cv_str {hp : List Ob} (b : ByteArray) : closeV hp (.str b) = some ((.str b), hp) := Eq.trans rfl rfl
theorem cc_str {hp : List Ob} (b : ByteArray) : closeC hp (.str b) = some ((.str b), hp) := Eq.trans rfl rfl
theorem iv_str {hp : List Ob} (b : ByteArray) : idsV hp (.str b) = [] := Eq.trans rfl rfl
theorem ic_str (b : ByteArray) : idsC (.str b) = [] := Eq.trans rfl rfl
theorem cl_str (b : ByteArray) : SV.closed (.str b) = true := Eq.trans rfl rfl
theorem ok_str (b : ByteArray) : SV.ok (.str b) = true := Eq.trans rfl rfl
theorem gp_str (b : ByteArray) : isGp (.str b) = false := Eq.trans rfl rfl
theorem ce_str (b : ByteArray) : cellsOf (.str b) = [(.str b)] := Eq.trans rfl rfl
theorem cv_nilp {hp : List Ob}  : closeV hp .nilp = some (.nilp, hp) := Eq.trans rfl rfl
theorem cc_nilp {hp : List Ob}  : closeC hp .nilp = some (.nilp, hp) := Eq.trans rfl rfl
theorem iv_nilp {hp : List Ob}  : idsV hp .nilp = [] := Eq.trans rfl rfl
theorem ic_nilp  : idsC .nilp = [] := Eq.trans rfl rfl
theorem cl_nilp  : SV.closed .nilp = true := Eq.trans rfl rfl
theorem ok_nilp  : SV.ok .nilp = true := Eq.trans rfl rfl
theorem gp_nilp  : isGp .nilp = false := Eq.trans rfl rfl
theorem ce_nilp  : cellsOf .nilp = [.nilp] := Eq.trans rfl rfl
theorem cv_nils {hp : List Ob}  : closeV hp .nils = some (.nils, hp) := Eq.trans rfl rfl
theorem cc_nils {hp : List Ob}  : closeC hp .nils = some (.nils, hp) := Eq.trans rfl rfl
theorem iv_nils {hp : List Ob}  : idsV hp .nils = [] := Eq.trans rfl rfl
theorem ic_nils  : idsC .nils = [] := Eq.trans rfl rfl
theorem cl_nils  : SV.closed .nils = true := Eq.trans rfl rfl
theorem ok_nils  : SV.ok .nils = true := Eq.trans rfl rfl
theorem gp_nils  : isGp .nils = false := Eq.trans rfl rfl
theorem ce_nils  : cellsOf .nils = [.nils] := Eq.trans rfl rfl
theorem cv_dref {hp : List Ob} (z : Nat) (l : List SV) (c : Nat) : closeV hp (.dref z l c) = some ((.dref z l c), hp) := Eq.trans rfl rfl
theorem cc_dref {hp : List Ob} (z : Nat) (l : List SV) (c : Nat) : closeC hp (.dref z l c) = some ((.dref z l c), hp) := Eq.trans rfl rfl
theorem iv_dref {hp : List Ob} (z : Nat) (l : List SV) (c : Nat) : idsV hp (.dref z l c) = [] := Eq.trans rfl rfl
theorem ic_dref (z : Nat) (l : List SV) (c : Nat) : idsC (.dref z l c) = [] := Eq.trans rfl rfl
theorem cl_dref (z : Nat) (l : List SV) (c : Nat) : SV.closed (.dref z l c) = true := Eq.trans rfl rfl
theorem ok_dref (z : Nat) (l : List SV) (c : Nat) : SV.ok (.dref z l c) = true := Eq.trans rfl rfl
theorem gp_dref (z : Nat) (l : List SV) (c : Nat) : isGp (.dref z l c) = false := Eq.trans rfl rfl
theorem ce_dref (z : Nat) (l : List SV) (c : Nat) : cellsOf (.dref z l c) = [(.dref z l c)] := Eq.trans rfl rfl
theorem cv_dsl {hp : List Ob} (z : Nat) (l : List (List SV)) : closeV hp (.dsl z l) = some ((.dsl z l), hp) := Eq.trans rfl rfl
theorem cc_dsl {hp : List Ob} (z : Nat) (l : List (List SV)) : closeC hp (.dsl z l) = some ((.dsl z l), hp) := Eq.trans rfl rfl
theorem iv_dsl {hp : List Ob} (z : Nat) (l : List (List SV)) : idsV hp (.dsl z l) = [] := Eq.trans rfl rfl
theorem ic_dsl (z : Nat) (l : List (List SV)) : idsC (.dsl z l) = [] := Eq.trans rfl rfl
theorem cl_dsl (z : Nat) (l : List (List SV)) : SV.closed (.dsl z l) = true := Eq.trans rfl rfl
theorem ok_dsl (z : Nat) (l : List (List SV)) : SV.ok (.dsl z l) = true := Eq.trans rfl rfl
theorem gp_dsl (z : Nat) (l : List (List SV)) : isGp (.dsl z l) = false := Eq.trans rfl rfl
theorem ce_dsl (z : Nat) (l : List (List SV)) : cellsOf (.dsl z l) = [(.dsl z l)] := Eq.trans rfl rfl
theorem cv_fn {hp : List Ob} (f : Nat) : closeV hp (.fn f) = some ((.fn f), hp) := Eq.trans rfl rfl
theorem cc_fn {hp : List Ob} (f : Nat) : closeC hp (.fn f) = some ((.fn f), hp) := Eq.trans rfl rfl
theorem iv_fn {hp : List Ob} (f : Nat) : idsV hp (.fn f) = [] := Eq.trans rfl rfl
theorem ic_fn (f : Nat) : idsC (.fn f) = [] := Eq.trans rfl rfl
theorem cl_fn (f : Nat) : SV.closed (.fn f) = true := Eq.trans rfl rfl
theorem ok_fn (f : Nat) : SV.ok (.fn f) = true := Eq.trans rfl rfl
theorem gp_fn (f : Nat) : isGp (.fn f) = false := Eq.trans rfl rfl
theorem ce_fn (f : Nat) : cellsOf (.fn f) = [(.fn f)] := Eq.trans rfl rfl
theorem cv_gp {hp : List Ob} (i c : Nat) : closeV hp (.gp i c) = some ((.gp i c), hp) := Eq.trans rfl rfl
theorem cc_gp {hp : List Ob} (i c : Nat) : closeC hp (.gp i c) = some ((.gp i c), hp) := Eq.trans rfl rfl
theorem iv_gp {hp : List Ob} (i c : Nat) : idsV hp (.gp i c) = [] := Eq.trans rfl rfl
theorem ic_gp (i c : Nat) : idsC (.gp i c) = [] := Eq.trans rfl rfl
theorem cl_gp (i c : Nat) : SV.closed (.gp i c) = true := Eq.trans rfl rfl
theorem ok_gp (i c : Nat) : SV.ok (.gp i c) = true := Eq.trans rfl rfl
theorem gp_gp (i c : Nat) : isGp (.gp i c) = true := Eq.trans rfl rfl
theorem ce_gp (i c : Nat) : cellsOf (.gp i c) = [(.gp i c)] := Eq.trans rfl rfl
theorem cv_mp {hp : List Ob} (i : Nat) : closeV hp (.mp i) = some ((.mp i), hp) := Eq.trans rfl rfl
theorem cc_mp {hp : List Ob} (i : Nat) : closeC hp (.mp i) = some ((.mp i), hp) := Eq.trans rfl rfl
theorem iv_mp {hp : List Ob} (i : Nat) : idsV hp (.mp i) = [] := Eq.trans rfl rfl
theorem ic_mp (i : Nat) : idsC (.mp i) = [] := Eq.trans rfl rfl
theorem cl_mp (i : Nat) : SV.closed (.mp i) = true := Eq.trans rfl rfl
theorem ok_mp (i : Nat) : SV.ok (.mp i) = true := Eq.trans rfl rfl
theorem gp_mp (i : Nat) : isGp (.mp i) = false := Eq.trans rfl rfl
theorem ce_mp (i : Nat) : cellsOf (.mp i) = [(.mp i)] := Eq.trans rfl rfl
theorem cv_nilm {hp : List Ob}  : closeV hp .nilm = some (.nilm, hp) := Eq.trans rfl rfl
theorem cc_nilm {hp : List Ob}  : closeC hp .nilm = some (.nilm, hp) := Eq.trans rfl rfl
theorem iv_nilm {hp : List Ob}  : idsV hp .nilm = [] := Eq.trans rfl rfl
theorem ic_nilm  : idsC .nilm = [] := Eq.trans rfl rfl
theorem cl_nilm  : SV.closed .nilm = true := Eq.trans rfl rfl
theorem ok_nilm  : SV.ok .nilm = true := Eq.trans rfl rfl
theorem gp_nilm  : isGp .nilm = false := Eq.trans rfl rfl
theorem ce_nilm  : cellsOf .nilm = [.nilm] := Eq.trans rfl rfl
theorem cv_ife {hp : List Ob} (t : Nat) : closeV hp (.ife t) = some ((.ife t), hp) := Eq.trans rfl rfl
theorem cc_ife {hp : List Ob} (t : Nat) : closeC hp (.ife t) = some ((.ife t), hp) := Eq.trans rfl rfl
theorem iv_ife {hp : List Ob} (t : Nat) : idsV hp (.ife t) = [] := Eq.trans rfl rfl
theorem ic_ife (t : Nat) : idsC (.ife t) = [] := Eq.trans rfl rfl
theorem cl_ife (t : Nat) : SV.closed (.ife t) = true := Eq.trans rfl rfl
theorem ok_ife (t : Nat) : SV.ok (.ife t) = true := Eq.trans rfl rfl
theorem gp_ife (t : Nat) : isGp (.ife t) = false := Eq.trans rfl rfl
theorem ce_ife (t : Nat) : cellsOf (.ife t) = [(.ife t)] := Eq.trans rfl rfl
theorem cv_aggt {hp : List Ob} (l : List SV) : closeV hp (.agg true l) = some ((.agg true l), hp) := Eq.trans rfl rfl
theorem cc_aggt {hp : List Ob} (l : List SV) : closeC hp (.agg true l) = some ((.agg true l), hp) := Eq.trans rfl rfl
theorem iv_aggt {hp : List Ob} (l : List SV) : idsV hp (.agg true l) = [] := Eq.trans rfl rfl
theorem ic_aggt (l : List SV) : idsC (.agg true l) = [] := Eq.trans rfl rfl
theorem cl_aggt (l : List SV) : SV.closed (.agg true l) = true := Eq.trans rfl rfl
theorem ok_aggt (l : List SV) : SV.ok (.agg true l) = true := Eq.trans rfl rfl
theorem gp_aggt (l : List SV) : isGp (.agg true l) = false := Eq.trans rfl rfl
theorem ce_agg (b : Bool) (l : List SV) : cellsOf (.agg b l) = l := Eq.trans rfl rfl
theorem cv_junk {hp : List Ob} : closeV hp .junk = none := Eq.trans rfl rfl
theorem cc_junk {hp : List Ob} : closeC hp .junk = none := Eq.trans rfl rfl
theorem iv_junk {hp : List Ob} : idsV hp .junk = [] := Eq.trans rfl rfl
theorem ic_junk : idsC .junk = [] := Eq.trans rfl rfl
theorem cl_junk : SV.closed .junk = false := Eq.trans rfl rfl
theorem ok_junk : SV.ok .junk = false := Eq.trans rfl rfl
theorem gp_junk : isGp .junk = false := Eq.trans rfl rfl
theorem ce_junk : cellsOf .junk = [.junk] := Eq.trans rfl rfl
theorem cv_undef {hp : List Ob} : closeV hp .undef = none := Eq.trans rfl rfl
theorem cc_undef {hp : List Ob} : closeC hp .undef = none := Eq.trans rfl rfl
theorem iv_undef {hp : List Ob} : idsV hp .undef = [] := Eq.trans rfl rfl
theorem ic_undef : idsC .undef = [] := Eq.trans rfl rfl
theorem cl_undef : SV.closed .undef = false := Eq.trans rfl rfl
theorem ok_undef : SV.ok .undef = false := Eq.trans rfl rfl
theorem gp_undef : isGp .undef = false := Eq.trans rfl rfl
theorem ce_undef : cellsOf .undef = [.undef] := Eq.trans rfl rfl
theorem cv_ref {hp : List Ob} (o g e c : Nat) : closeV hp (.ref o g e c) = (match hp[o]? with
    | some ob =>
      if ob.box = true ∧ ob.gen = g ∧ e = 0 then
        if ob.cl then some (.dref ob.sz (ob.els.getD 0 []) c, fz hp o ob)
        else match closeCs hp (ob.els.getD 0 []) with
          | some (l', h) => some (.dref ob.sz l' c, h.set o { ob with els := [l'], frz := 1, cl := true })
          | none => none
      else none
    | none => none) := Eq.trans rfl rfl
theorem cc_ref {hp : List Ob} (o g e c : Nat) : closeC hp (.ref o g e c) = none := Eq.trans rfl rfl
theorem cv_osl {hp : List Ob} (o g off len : Nat) : closeV hp (.osl o g off len) = (match hp[o]? with
    | some ob => if ob.box = false ∧ ob.gen = g then some (.dsl ob.sz ((ob.els.drop off).take len), fz hp o ob) else none
    | none => none) := Eq.trans rfl rfl
theorem cc_osl {hp : List Ob} (o g off len : Nat) : closeC hp (.osl o g off len) = (match hp[o]? with
    | some ob => if ob.box = false ∧ ob.gen = g then some (.dsl ob.sz ((ob.els.drop off).take len), fz hp o ob) else none
    | none => none) := Eq.trans rfl rfl
theorem cv_aggf {hp : List Ob} (l : List SV) : closeV hp (.agg false l) = (match closeCs hp l with
    | some (l', h) => some (.agg true l', h)
    | none => none) := Eq.trans rfl rfl
theorem cc_aggf {hp : List Ob} (l : List SV) : closeC hp (.agg false l) = none := Eq.trans rfl rfl
theorem iv_ref {hp : List Ob} (o g e c : Nat) : idsV hp (.ref o g e c) = o :: (match hp[o]? with | some ob => if ob.cl then [] else (ob.els.getD 0 []).flatMap idsC | none => []) := Eq.trans rfl rfl
theorem iv_osl {hp : List Ob} (o g off len : Nat) : idsV hp (.osl o g off len) = [o] := Eq.trans rfl rfl
theorem iv_aggf {hp : List Ob} (l : List SV) : idsV hp (.agg false l) = l.flatMap idsC := Eq.trans rfl rfl
theorem ic_ref (o g e c : Nat) : idsC (.ref o g e c) = [o] := Eq.trans rfl rfl
theorem ic_osl (o g off len : Nat) : idsC (.osl o g off len) = [o] := Eq.trans rfl rfl
theorem ic_agg (b : Bool) (l : List SV) : idsC (.agg b l) = [] := Eq.trans rfl rfl
theorem cl_ref (o g e c : Nat) : SV.closed (.ref o g e c) = false := Eq.trans rfl rfl
theorem ok_ref (o g e c : Nat) : SV.ok (.ref o g e c) = true := Eq.trans rfl rfl
theorem gp_ref (o g e c : Nat) : isGp (.ref o g e c) = false := Eq.trans rfl rfl
theorem ce_ref (o g e c : Nat) : cellsOf (.ref o g e c) = [(.ref o g e c)] := Eq.trans rfl rfl
theorem cl_osl (o g off len : Nat) : SV.closed (.osl o g off len) = false := Eq.trans rfl rfl
theorem ok_osl (o g off len : Nat) : SV.ok (.osl o g off len) = true := Eq.trans rfl rfl
theorem gp_osl (o g off len : Nat) : isGp (.osl o g off len) = false := Eq.trans rfl rfl
theorem ce_osl (o g off len : Nat) : cellsOf (.osl o g off len) = [(.osl o g off len)] := Eq.trans rfl rfl
theorem cl_agg (b : Bool) (l : List SV) : SV.closed (.agg b l) = b := Eq.trans rfl rfl
theorem ok_agg (b : Bool) (l : List SV) : SV.ok (.agg b l) = true := Eq.trans rfl rfl
theorem gp_agg (b : Bool) (l : List SV) : isGp (.agg b l) = false := Eq.trans rfl rfl
theorem eb_int (kd : Nat) (op : BinOp) (k k' : IntKind) (a b : Int) : evBin kd op (.int k a) (.int k' b) = if kd = 0 ∧ k = k' then intBin op k a b else none := Eq.trans rfl rfl
theorem eb_bool (kd : Nat) (op : BinOp) (a b : Bool) : evBin kd op (.bool a) (.bool b) = if kd = 1 then eqB op (a == b) else none := Eq.trans rfl rfl
theorem eb_flt (kd : Nat) (op : BinOp) (k k' : FloatKind) (a b : Nat) : evBin kd op (.float k a) (.float k' b) = if kd = 3 ∧ k = k' then fltBin op k a b else none := Eq.trans rfl rfl
theorem eb_ref (kd : Nat) (op : BinOp) (o g e c : Nat) : evBin kd op (.ref o g e c) .nilp = if kd = 2 then eqB op false else none := Eq.trans rfl rfl
theorem eb_dref (kd : Nat) (op : BinOp) (z : Nat) (l : List SV) (c : Nat) : evBin kd op (.dref z l c) .nilp = if kd = 2 then eqB op false else none := Eq.trans rfl rfl
theorem eb_gp (kd : Nat) (op : BinOp) (i c : Nat) : evBin kd op (.gp i c) .nilp = if kd = 2 then eqB op false else none := Eq.trans rfl rfl
theorem eb_nilp (kd : Nat) (op : BinOp) : evBin kd op .nilp .nilp = if kd = 2 then eqB op true else none := Eq.trans rfl rfl
theorem bl_bool (n : Nat) (b : Bool) : below n (.bool b) = true := Eq.trans rfl rfl
theorem bl_int (n : Nat) (k : IntKind) (i : Int) : below n (.int k i) = true := Eq.trans rfl rfl
theorem bl_float (n : Nat) (k : FloatKind) (b : Nat) : below n (.float k b) = true := Eq.trans rfl rfl
theorem bl_str (n : Nat) (b : ByteArray) : below n (.str b) = true := Eq.trans rfl rfl
theorem bl_nilp (n : Nat)  : below n .nilp = true := Eq.trans rfl rfl
theorem bl_nils (n : Nat)  : below n .nils = true := Eq.trans rfl rfl
theorem bl_dref (n : Nat) (z : Nat) (l : List SV) (c : Nat) : below n (.dref z l c) = true := Eq.trans rfl rfl
theorem bl_dsl (n : Nat) (z : Nat) (l : List (List SV)) : below n (.dsl z l) = true := Eq.trans rfl rfl
theorem bl_fn (n : Nat) (f : Nat) : below n (.fn f) = true := Eq.trans rfl rfl
theorem bl_gp (n : Nat) (i c : Nat) : below n (.gp i c) = true := Eq.trans rfl rfl
theorem bl_mp (n : Nat) (i : Nat) : below n (.mp i) = true := Eq.trans rfl rfl
theorem bl_nilm (n : Nat)  : below n .nilm = true := Eq.trans rfl rfl
theorem bl_ife (n : Nat) (t : Nat) : below n (.ife t) = true := Eq.trans rfl rfl
theorem bl_aggt (n : Nat) (l : List SV) : below n (.agg true l) = true := Eq.trans rfl rfl
theorem bl_junk (n : Nat)  : below n .junk = true := Eq.trans rfl rfl
theorem bl_undef (n : Nat)  : below n .undef = true := Eq.trans rfl rfl
theorem bl_tup (n : Nat) (l : List SV) : below n (.tup l) = true := Eq.trans rfl rfl
theorem bl_ref (n : Nat) (o g e c : Nat) : below n (.ref o g e c) = decide (o < n) := Eq.trans rfl rfl
theorem bl_osl (n : Nat) (o g off len : Nat) : below n (.osl o g off len) = decide (o < n) := Eq.trans rfl rfl
attribute [go_sem] bl_bool bl_int bl_float bl_str bl_nilp bl_nils bl_dref bl_dsl bl_fn bl_gp bl_mp bl_nilm bl_ife bl_aggt bl_junk bl_undef bl_tup bl_ref bl_osl
theorem mp_t : isMp [.undef] = true := Eq.trans rfl rfl
theorem mp_n : isMp [] = false := Eq.trans rfl rfl
theorem mp_cc {a b : SV} {l : List SV} : isMp (a :: b :: l) = false := by cases a <;> rfl
theorem mp_int {k} {n} : isMp [.int k n] = false := Eq.trans rfl rfl
theorem mp_bool {b} : isMp [.bool b] = false := Eq.trans rfl rfl
theorem mp_str {b} : isMp [.str b] = false := Eq.trans rfl rfl
theorem mp_gp {a b} : isMp [.gp a b] = false := Eq.trans rfl rfl
theorem mp_mp {a} : isMp [.mp a] = false := Eq.trans rfl rfl
theorem mp_dref {a b c} : isMp [.dref a b c] = false := Eq.trans rfl rfl
theorem mp_dsl {a b} : isMp [.dsl a b] = false := Eq.trans rfl rfl
theorem mp_nilp : isMp [.nilp] = false := Eq.trans rfl rfl
theorem mp_nils : isMp [.nils] = false := Eq.trans rfl rfl
theorem mp_nilm : isMp [.nilm] = false := Eq.trans rfl rfl
theorem mp_ife {a} : isMp [.ife a] = false := Eq.trans rfl rfl
theorem mp_agg {a b} : isMp [.agg a b] = false := Eq.trans rfl rfl
theorem mp_flt {k b} : isMp [.float k b] = false := Eq.trans rfl rfl
theorem mp_fn {f} : isMp [.fn f] = false := Eq.trans rfl rfl
theorem pok_1 {l : List SV} : pok 1 l = True := by simp [pok]
theorem pok_2 {l : List SV} : pok 2 l = True := by simp [pok]
theorem pok_4 {l : List SV} : pok 4 l = True := by simp [pok]
theorem pok_5 {l : List SV} : pok 5 l = True := by simp [pok]
theorem pok_7 {l : List SV} : pok 7 l = True := by simp [pok]
theorem pok_8 {l : List SV} : pok 8 l = True := by simp [pok]
theorem pok_9 {l : List SV} : pok 9 l = True := by simp [pok]
theorem pok_10 {l : List SV} : pok 10 l = True := by simp [pok]
theorem pok_11 {l : List SV} : pok 11 l = True := by simp [pok]
theorem pok_12 {l : List SV} : pok 12 l = True := by simp [pok]
theorem pok_13 {l : List SV} : pok 13 l = True := by simp [pok]
theorem pok_14 {l : List SV} : pok 14 l = True := by simp [pok]
theorem pok_15 {l : List SV} : pok 15 l = True := by simp [pok]
theorem pok_16 {l : List SV} : pok 16 l = True := by simp [pok]
theorem pok_17 {l : List SV} : pok 17 l = True := by simp [pok]
theorem pok_18 {l : List SV} : pok 18 l = True := by simp [pok]
theorem pok_19 {l : List SV} : pok 19 l = True := by simp [pok]
theorem pok_20 {l : List SV} : pok 20 l = True := by simp [pok]
theorem pok_21 {l : List SV} : pok 21 l = True := by simp [pok]
theorem pok_22 {l : List SV} : pok 22 l = True := by simp [pok]
theorem pok_23 {l : List SV} : pok 23 l = True := by simp [pok]
theorem pok_24 {l : List SV} : pok 24 l = True := by simp [pok]
theorem pok_25 {l : List SV} : pok 25 l = True := by simp [pok]
theorem pok_26 {l : List SV} : pok 26 l = True := by simp [pok]
theorem pok_27 {l : List SV} : pok 27 l = True := by simp [pok]
theorem pok_28 {l : List SV} : pok 28 l = True := by simp [pok]
theorem pok_29 {l : List SV} : pok 29 l = True := by simp [pok]
theorem pok_30 {l : List SV} : pok 30 l = True := by simp [pok]
theorem pok_31 {l : List SV} : pok 31 l = True := by simp [pok]
theorem pok_32 {l : List SV} : pok 32 l = True := by simp [pok]
theorem pok_33 {l : List SV} : pok 33 l = True := by simp [pok]
theorem pok_34 {l : List SV} : pok 34 l = True := by simp [pok]
theorem pok_35 {l : List SV} : pok 35 l = True := by simp [pok]
theorem pok_36 {l : List SV} : pok 36 l = True := by simp [pok]
theorem pok_37 {l : List SV} : pok 37 l = True := by simp [pok]
theorem pok_38 {l : List SV} : pok 38 l = True := by simp [pok]
theorem pok_39 {l : List SV} : pok 39 l = True := by simp [pok]
theorem pok_40 {l : List SV} : pok 40 l = True := by simp [pok]
theorem cmp_bool {kd : Nat} {op : BinOp} {p : Bool} {b : SV} : cmpD kd op (.bool p) b = none := Eq.trans rfl rfl
theorem cmp_int {kd : Nat} {op : BinOp} {k : IntKind} {n : Int} {b : SV} : cmpD kd op (.int k n) b = none := Eq.trans rfl rfl
theorem cmp_float {kd : Nat} {op : BinOp} {k : FloatKind} {n : Nat} {b : SV} : cmpD kd op (.float k n) b = none := Eq.trans rfl rfl
theorem cmp_str {kd : Nat} {op : BinOp} {p : ByteArray} {b : SV} : cmpD kd op (.str p) b = none := Eq.trans rfl rfl
theorem cmp_nilp {kd : Nat} {op : BinOp}  {b : SV} : cmpD kd op .nilp b = none := Eq.trans rfl rfl
theorem cmp_nils {kd : Nat} {op : BinOp}  {b : SV} : cmpD kd op .nils b = none := Eq.trans rfl rfl
theorem cmp_ref {kd : Nat} {op : BinOp} {o1 o2 o3 o4 : Nat} {b : SV} : cmpD kd op (.ref o1 o2 o3 o4) b = none := Eq.trans rfl rfl
theorem cmp_gp {kd : Nat} {op : BinOp} {i c : Nat} {b : SV} : cmpD kd op (.gp i c) b = none := Eq.trans rfl rfl
theorem cmp_junk {kd : Nat} {op : BinOp}  {b : SV} : cmpD kd op .junk b = none := Eq.trans rfl rfl
theorem cmp_undef {kd : Nat} {op : BinOp}  {b : SV} : cmpD kd op .undef b = none := Eq.trans rfl rfl
theorem cmp_ife {kd : Nat} {op : BinOp} {i : Nat} {b : SV} : cmpD kd op (.ife i) b = none := Eq.trans rfl rfl
theorem cmp_mp {kd : Nat} {op : BinOp} {i : Nat} {b : SV} : cmpD kd op (.mp i) b = none := Eq.trans rfl rfl
theorem cmp_nilm {kd : Nat} {op : BinOp}  {b : SV} : cmpD kd op .nilm b = none := Eq.trans rfl rfl
theorem cmp_fn {kd : Nat} {op : BinOp} {i : Nat} {b : SV} : cmpD kd op (.fn i) b = none := Eq.trans rfl rfl
theorem cmp_np {kd : Nat} {op : BinOp} {a : SV} : cmpD kd op a .nilp = none := by cases a <;> rfl
theorem cmp_eq {z c z2 c2 : Nat} {l l2 : List SV} (h : psz l = true) (h2 : psz l2 = true) : cmpD 2 .eql (.dref z l c) (.dref z2 l2 c2) = some (.bool true, .bool false) := by simp [cmpD, h, h2]
theorem cmp_ne {z c z2 c2 : Nat} {l l2 : List SV} (h : psz l = true) (h2 : psz l2 = true) : cmpD 2 .neq (.dref z l c) (.dref z2 l2 c2) = some (.bool false, .bool true) := by simp [cmpD, h, h2]
attribute [go_sem] cmp_bool cmp_int cmp_float cmp_str cmp_nilp cmp_nils cmp_ref cmp_gp cmp_junk cmp_undef cmp_ife cmp_mp cmp_nilm cmp_fn cmp_np cmp_eq cmp_ne pok_1 pok_2 pok_4 pok_5 pok_7 pok_8 pok_9 pok_10 pok_11 pok_12 pok_13 pok_14 pok_15 pok_16 pok_17 pok_18 pok_19 pok_20 pok_21 pok_22 pok_23 pok_24 pok_25 pok_26 pok_27 pok_28 pok_29 pok_30 pok_31 pok_32 pok_33 pok_34 pok_35 pok_36 pok_37 pok_38 pok_39 pok_40 cv_bool cc_bool iv_bool ic_bool cl_bool ok_bool gp_bool ce_bool cv_int cc_int iv_int ic_int cl_int ok_int gp_int ce_int cv_float cc_float iv_float ic_float cl_float ok_float gp_float ce_float cv_str cc_str iv_str ic_str cl_str ok_str gp_str ce_str cv_nilp cc_nilp iv_nilp ic_nilp cl_nilp ok_nilp gp_nilp ce_nilp cv_nils cc_nils iv_nils ic_nils cl_nils ok_nils gp_nils ce_nils cv_dref cc_dref iv_dref ic_dref cl_dref ok_dref gp_dref ce_dref cv_dsl cc_dsl iv_dsl ic_dsl cl_dsl ok_dsl gp_dsl ce_dsl cv_fn cc_fn iv_fn ic_fn cl_fn ok_fn gp_fn ce_fn cv_gp cc_gp iv_gp ic_gp cl_gp ok_gp gp_gp ce_gp cv_mp cc_mp iv_mp ic_mp cl_mp ok_mp gp_mp ce_mp cv_nilm cc_nilm iv_nilm ic_nilm cl_nilm ok_nilm gp_nilm ce_nilm cv_ife cc_ife iv_ife ic_ife cl_ife ok_ife gp_ife ce_ife cv_aggt cc_aggt iv_aggt ic_aggt cl_aggt ok_aggt gp_aggt ce_agg cv_junk cc_junk iv_junk ic_junk cl_junk ok_junk gp_junk ce_junk cv_undef cc_undef iv_undef ic_undef cl_undef ok_undef gp_undef ce_undef cv_ref cc_ref cv_osl cc_osl cv_aggf cc_aggf iv_ref iv_osl iv_aggf ic_ref ic_osl ic_agg cl_ref ok_ref gp_ref ce_ref cl_osl ok_osl gp_osl ce_osl cl_agg ok_agg gp_agg eb_int eb_bool eb_flt eb_ref eb_dref eb_gp eb_nilp ev_FH rtG_n rtG_r rtG_np rtG_rp rtG_e ev_retIsG putH_ev putHD_ev gOf_ev ev_hcall ev_dhcall ev_pan ev_newg ev_dnewg ev_boxg ev_dboxg ev_mkmap ev_dmkmap ev_ifc ev_difc adC mp_t mp_cc mp_n mp_int mp_bool mp_str mp_gp mp_mp mp_dref mp_dsl mp_nilp mp_nils mp_nilm mp_ife mp_agg mp_flt mp_fn gs_true gs_false gs_not beq_true beq_false ev_F rt_n rt_r rt_e ev_retIs lq_n lq_e lq_r putK_ev putKD_ev sq_n sq_e sq_r bk_n bk_e bk_r ev_skip ev_ret ev_exit ev_reg ev_regd ev_seq ev_blk ev_cond ev_nil ev_ok ev_cons ev_consg ev_goG ev_skG ev_pk ev_pkD ev_call ev_callv ev_pick fin1_some fin1_none finD_some finD_none ev_dnil ev_okD ev_dcons ev_dconsg ev_goD ev_skD ev_dcall ev_dcallv ev_dpick ev_get_t ev_get_c ev_put_s ev_put_n ev_val ev_val_n ev_mv ev_dmv ev_new ev_dnew ev_box ev_dbox ev_build ev_dbuild ev_bslice ev_dbslice ev_load ev_dload ev_store ev_dstore ev_nilck ev_dnilck ev_bin ev_dbin ev_un ev_dun ev_conv ev_dconv ev_mk ev_dmk ev_slc ev_dslc ev_fad ev_dfad ev_fld ev_dfld ev_iad ev_diad ev_len ev_dlen ev_app ev_dapp ev_ext ev_dext ev_mnx ev_dmnx clear clear2 stable isHC touchD chgD usesO usesS creates reader idsVs absOp absLoad absStore absApp absIad absLen absSlc bound loB elsOf closeCs closeVs closeRows fz cut_whole cut_part cut_cell spl_whole spl_cell hv_0 hv_a hv_b hv_x hv_y hv_h hv_len hv_fill intBin fltBin eqB partsOk fill_nil fill_cell retvs retv1 List.getD_cons_zero List.getD_cons_succ List.getD_nil List.set_cons_zero List.set_cons_succ List.set_nil List.getElem?_cons_zero List.getElem?_cons_succ List.getElem?_nil List.length_cons List.length_nil List.length_append List.length_set List.map_cons List.map_nil List.all_cons List.all_nil List.nil_append List.cons_append List.append_nil List.replicate_succ List.replicate_zero List.getElem?_append_left List.getElem?_append_right List.drop_succ_cons List.drop_zero List.take_succ_cons List.take_zero List.take_nil List.drop_nil List.mem_cons List.not_mem_nil List.contains_cons List.contains_nil List.getD_eq_getElem?_getD Option.getD_some Option.getD_none Bool.true_and Bool.and_true Bool.false_and Bool.and_false Bool.or_true Bool.true_or Bool.or_false Bool.false_or Bool.not_true Bool.not_false Bool.false_eq_true Bool.true_eq_false if_true if_false ite_true ite_false true_and and_true false_and and_false and_self or_true true_or or_false false_or not_true_eq_false not_false_eq_true ne_eq forall_const true_implies false_implies implies_true exists_eq_left exists_eq_left' exists_eq exists_const eq_self decide_true decide_false beq_self_eq_true Nat.zero_add Nat.add_zero Nat.sub_zero Nat.sub_self Nat.le_refl Nat.lt_irrefl Nat.zero_le Nat.zero_lt_succ Int.toNat_zero Int.toNat_natCast List.flatMap_cons List.flatMap_nil decide_eq_true_eq decide_eq_false_iff_not ge_iff_le gt_iff_lt Int.not_le Int.not_lt forall_eq forall_eq_or_imp Nat.not_lt_zero SV.int.injEq SV.bool.injEq tv_len Int.cast_ofNat_Int BEq.rfl
theorem eb_nild (kd : Nat) (op : BinOp) (z : Nat) (l : List SV) (c : Nat) : evBin kd op .nilp (.dref z l c) = if kd = 2 then eqB op false else none := Eq.trans rfl rfl
theorem eb_nilg (kd : Nat) (op : BinOp) (i c : Nat) : evBin kd op .nilp (.gp i c) = if kd = 2 then eqB op false else none := Eq.trans rfl rfl
attribute [go_sem] eb_nild eb_nilg ev_FQ rtQ_n rtQ_r rtQ_e ev_retIsQ
end Go.Proofs.YtdpigpopcbjkmaaDoor.Abs
