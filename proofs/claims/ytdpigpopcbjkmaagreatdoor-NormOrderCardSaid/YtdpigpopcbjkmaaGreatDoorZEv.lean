import Derived.Test.YtdpigpopcbjkmaaGreatDoorZTm
import Derived.Attr
import Derived.Laws.Strings2
set_option linter.unusedSimpArgs false
set_option linter.unusedVariables false
set_option maxRecDepth 20000
set_option maxHeartbeats 4000000
namespace Go.Proofs.YtdpigpopcbjkmaaGreatDoor.Abs
open Go Go.RowKit
theorem Auk {hp:List Ob} (b:Bool):Bu hp (.bool b)=some ((.bool b),hp):=Eq.trans rfl rfl
theorem Atk {hp:List Ob} (b:Bool):Bo hp (.bool b)=some ((.bool b),hp):=Eq.trans rfl rfl
theorem Axa {hp:List Ob} (b:Bool):Bt hp (.bool b)=[]:=Eq.trans rfl rfl
theorem Aqi (b:Bool):Bc (.bool b)=[]:=Eq.trans rfl rfl
theorem Azq (b:Bool):SV.closed (.bool b)=true:=Eq.trans rfl rfl
theorem A6p (b:Bool):SV.ok (.bool b)=true:=Eq.trans rfl rfl
theorem Ash (b:Bool):Du (.bool b)=false:=Eq.trans rfl rfl
theorem Bfj (b:Bool):cellsOf (.bool b)=[(.bool b)]:=Eq.trans rfl rfl
theorem Ar6 {hp:List Ob} (k:IntKind) (n:Int):Bu hp (.int k n)=some ((.int k n),hp):=Eq.trans rfl rfl
theorem Avw {hp:List Ob} (k:IntKind) (n:Int):Bo hp (.int k n)=some ((.int k n),hp):=Eq.trans rfl rfl
theorem A9a {hp:List Ob} (k:IntKind) (n:Int):Bt hp (.int k n)=[]:=Eq.trans rfl rfl
theorem A4k (k:IntKind) (n:Int):Bc (.int k n)=[]:=Eq.trans rfl rfl
theorem Bc4 (k:IntKind) (n:Int):SV.closed (.int k n)=true:=Eq.trans rfl rfl
theorem Bc7 (k:IntKind) (n:Int):SV.ok (.int k n)=true:=Eq.trans rfl rfl
theorem Bek (k:IntKind) (n:Int):Du (.int k n)=false:=Eq.trans rfl rfl
theorem Aun (k:IntKind) (n:Int):cellsOf (.int k n)=[(.int k n)]:=Eq.trans rfl rfl
theorem Bbs {hp:List Ob} (k:FloatKind) (n:Nat):Bu hp (.float k n)=some ((.float k n),hp):=Eq.trans rfl rfl
theorem Ap9 {hp:List Ob} (k:FloatKind) (n:Nat):Bo hp (.float k n)=some ((.float k n),hp):=Eq.trans rfl rfl
theorem Awl {hp:List Ob} (k:FloatKind) (n:Nat):Bt hp (.float k n)=[]:=Eq.trans rfl rfl
theorem Azk (k:FloatKind) (n:Nat):Bc (.float k n)=[]:=Eq.trans rfl rfl
theorem Ape (k:FloatKind) (n:Nat):SV.closed (.float k n)=true:=Eq.trans rfl rfl
theorem Ay5 (k:FloatKind) (n:Nat):SV.ok (.float k n)=true:=Eq.trans rfl rfl
theorem Bam (k:FloatKind) (n:Nat):Du (.float k n)=false:=Eq.trans rfl rfl
theorem Be7 (k:FloatKind) (n:Nat):cellsOf (.float k n)=[(.float k n)]:=Eq.trans rfl rfl
theorem Avy {hp:List Ob} (b:ByteArray):Bu hp (.str b)=some ((.str b),hp):=Eq.trans rfl rfl
theorem Ars {hp:List Ob} (b:ByteArray):Bo hp (.str b)=some ((.str b),hp):=Eq.trans rfl rfl
theorem Bdq {hp:List Ob} (b:ByteArray):Bt hp (.str b)=[]:=Eq.trans rfl rfl
theorem Bbw (b:ByteArray):Bc (.str b)=[]:=Eq.trans rfl rfl
theorem A0h (b:ByteArray):SV.closed (.str b)=true:=Eq.trans rfl rfl
theorem Arc (b:ByteArray):SV.ok (.str b)=true:=Eq.trans rfl rfl
theorem Aot (b:ByteArray):Du (.str b)=false:=Eq.trans rfl rfl
theorem A0r (b:ByteArray):cellsOf (.str b)=[(.str b)]:=Eq.trans rfl rfl
theorem Ay4 {hp:List Ob} :Bu hp .nilp=some (.nilp,hp):=Eq.trans rfl rfl
theorem A4f {hp:List Ob} :Bo hp .nilp=some (.nilp,hp):=Eq.trans rfl rfl
theorem Arz {hp:List Ob} :Bt hp .nilp=[]:=Eq.trans rfl rfl
theorem Apu :Bc .nilp=[]:=Eq.trans rfl rfl
theorem Arr :SV.closed .nilp=true:=Eq.trans rfl rfl
theorem A6y :SV.ok .nilp=true:=Eq.trans rfl rfl
theorem Aq4 :Du .nilp=false:=Eq.trans rfl rfl
theorem A6m :cellsOf .nilp=[.nilp]:=Eq.trans rfl rfl
theorem Azm {hp:List Ob} :Bu hp .nils=some (.nils,hp):=Eq.trans rfl rfl
theorem Au1 {hp:List Ob} :Bo hp .nils=some (.nils,hp):=Eq.trans rfl rfl
theorem Bfi {hp:List Ob} :Bt hp .nils=[]:=Eq.trans rfl rfl
theorem A3v :Bc .nils=[]:=Eq.trans rfl rfl
theorem Ap2 :SV.closed .nils=true:=Eq.trans rfl rfl
theorem Auz :SV.ok .nils=true:=Eq.trans rfl rfl
theorem A9n :Du .nils=false:=Eq.trans rfl rfl
theorem Ao3 :cellsOf .nils=[.nils]:=Eq.trans rfl rfl
theorem A8v {hp:List Ob} (z:Nat) (l:List SV) (c:Nat):Bu hp (.dref z l c)=some ((.dref z l c),hp):=Eq.trans rfl rfl
theorem Bcm {hp:List Ob} (z:Nat) (l:List SV) (c:Nat):Bo hp (.dref z l c)=some ((.dref z l c),hp):=Eq.trans rfl rfl
theorem Bap {hp:List Ob} (z:Nat) (l:List SV) (c:Nat):Bt hp (.dref z l c)=[]:=Eq.trans rfl rfl
theorem Bdm (z:Nat) (l:List SV) (c:Nat):Bc (.dref z l c)=[]:=Eq.trans rfl rfl
theorem Aue (z:Nat) (l:List SV) (c:Nat):SV.closed (.dref z l c)=true:=Eq.trans rfl rfl
theorem A2z (z:Nat) (l:List SV) (c:Nat):SV.ok (.dref z l c)=true:=Eq.trans rfl rfl
theorem A8c (z:Nat) (l:List SV) (c:Nat):Du (.dref z l c)=false:=Eq.trans rfl rfl
theorem Ar0 (z:Nat) (l:List SV) (c:Nat):cellsOf (.dref z l c)=[(.dref z l c)]:=Eq.trans rfl rfl
theorem Bev {hp:List Ob} (z:Nat) (l:List (List SV)):Bu hp (.dsl z l)=some ((.dsl z l),hp):=Eq.trans rfl rfl
theorem A3r {hp:List Ob} (z:Nat) (l:List (List SV)):Bo hp (.dsl z l)=some ((.dsl z l),hp):=Eq.trans rfl rfl
theorem A0a {hp:List Ob} (z:Nat) (l:List (List SV)):Bt hp (.dsl z l)=[]:=Eq.trans rfl rfl
theorem Awt (z:Nat) (l:List (List SV)):Bc (.dsl z l)=[]:=Eq.trans rfl rfl
theorem Bbz (z:Nat) (l:List (List SV)):SV.closed (.dsl z l)=true:=Eq.trans rfl rfl
theorem At0 (z:Nat) (l:List (List SV)):SV.ok (.dsl z l)=true:=Eq.trans rfl rfl
theorem Aoi (z:Nat) (l:List (List SV)):Du (.dsl z l)=false:=Eq.trans rfl rfl
theorem A6x (z:Nat) (l:List (List SV)):cellsOf (.dsl z l)=[(.dsl z l)]:=Eq.trans rfl rfl
theorem Baa {hp:List Ob} (f:Nat):Bu hp (.fn f)=some ((.fn f),hp):=Eq.trans rfl rfl
theorem Bbv {hp:List Ob} (f:Nat):Bo hp (.fn f)=some ((.fn f),hp):=Eq.trans rfl rfl
theorem Au6 {hp:List Ob} (f:Nat):Bt hp (.fn f)=[]:=Eq.trans rfl rfl
theorem Aqy (f:Nat):Bc (.fn f)=[]:=Eq.trans rfl rfl
theorem A5u (f:Nat):SV.closed (.fn f)=true:=Eq.trans rfl rfl
theorem Ax3 (f:Nat):SV.ok (.fn f)=true:=Eq.trans rfl rfl
theorem A4h (f:Nat):Du (.fn f)=false:=Eq.trans rfl rfl
theorem Aup (f:Nat):cellsOf (.fn f)=[(.fn f)]:=Eq.trans rfl rfl
theorem Apa {hp:List Ob} (i c:Nat):Bu hp (.gp i c)=some ((.gp i c),hp):=Eq.trans rfl rfl
theorem Bcb {hp:List Ob} (i c:Nat):Bo hp (.gp i c)=some ((.gp i c),hp):=Eq.trans rfl rfl
theorem Aus {hp:List Ob} (i c:Nat):Bt hp (.gp i c)=[]:=Eq.trans rfl rfl
theorem Bdt (i c:Nat):Bc (.gp i c)=[]:=Eq.trans rfl rfl
theorem A0o (i c:Nat):SV.closed (.gp i c)=true:=Eq.trans rfl rfl
theorem A2t (i c:Nat):SV.ok (.gp i c)=true:=Eq.trans rfl rfl
theorem Avc (i c:Nat):Du (.gp i c)=true:=Eq.trans rfl rfl
theorem Aqs (i c:Nat):cellsOf (.gp i c)=[(.gp i c)]:=Eq.trans rfl rfl
theorem Aze {hp:List Ob} (i:Nat):Bu hp (.mp i)=some ((.mp i),hp):=Eq.trans rfl rfl
theorem A5e {hp:List Ob} (i:Nat):Bo hp (.mp i)=some ((.mp i),hp):=Eq.trans rfl rfl
theorem Arn {hp:List Ob} (i:Nat):Bt hp (.mp i)=[]:=Eq.trans rfl rfl
theorem Ba9 (i:Nat):Bc (.mp i)=[]:=Eq.trans rfl rfl
theorem Ayp (i:Nat):SV.closed (.mp i)=true:=Eq.trans rfl rfl
theorem Avz (i:Nat):SV.ok (.mp i)=true:=Eq.trans rfl rfl
theorem Bds (i:Nat):Du (.mp i)=false:=Eq.trans rfl rfl
theorem A7o (i:Nat):cellsOf (.mp i)=[(.mp i)]:=Eq.trans rfl rfl
theorem Aub {hp:List Ob} :Bu hp .nilm=some (.nilm,hp):=Eq.trans rfl rfl
theorem Av0 {hp:List Ob} :Bo hp .nilm=some (.nilm,hp):=Eq.trans rfl rfl
theorem Ax8 {hp:List Ob} :Bt hp .nilm=[]:=Eq.trans rfl rfl
theorem Az5 :Bc .nilm=[]:=Eq.trans rfl rfl
theorem Av8 :SV.closed .nilm=true:=Eq.trans rfl rfl
theorem Ax2 :SV.ok .nilm=true:=Eq.trans rfl rfl
theorem Aoe :Du .nilm=false:=Eq.trans rfl rfl
theorem Ax6 :cellsOf .nilm=[.nilm]:=Eq.trans rfl rfl
theorem At8 {hp:List Ob} (t:Nat):Bu hp (.ife t)=some ((.ife t),hp):=Eq.trans rfl rfl
theorem Ayj {hp:List Ob} (t:Nat):Bo hp (.ife t)=some ((.ife t),hp):=Eq.trans rfl rfl
theorem Ay9 {hp:List Ob} (t:Nat):Bt hp (.ife t)=[]:=Eq.trans rfl rfl
theorem Ba7 (t:Nat):Bc (.ife t)=[]:=Eq.trans rfl rfl
theorem A2r (t:Nat):SV.closed (.ife t)=true:=Eq.trans rfl rfl
theorem Awe (t:Nat):SV.ok (.ife t)=true:=Eq.trans rfl rfl
theorem Av7 (t:Nat):Du (.ife t)=false:=Eq.trans rfl rfl
theorem Bcg (t:Nat):cellsOf (.ife t)=[(.ife t)]:=Eq.trans rfl rfl
theorem A9o {hp:List Ob} (l:List SV):Bu hp (.agg true l)=some ((.agg true l),hp):=Eq.trans rfl rfl
theorem Awp {hp:List Ob} (l:List SV):Bo hp (.agg true l)=some ((.agg true l),hp):=Eq.trans rfl rfl
theorem Axw {hp:List Ob} (l:List SV):Bt hp (.agg true l)=[]:=Eq.trans rfl rfl
theorem A3z (l:List SV):Bc (.agg true l)=[]:=Eq.trans rfl rfl
theorem A1h (l:List SV):SV.closed (.agg true l)=true:=Eq.trans rfl rfl
theorem A8d (l:List SV):SV.ok (.agg true l)=true:=Eq.trans rfl rfl
theorem A8i (l:List SV):Du (.agg true l)=false:=Eq.trans rfl rfl
theorem A5c (b:Bool) (l:List SV):cellsOf (.agg b l)=l:=Eq.trans rfl rfl
theorem Arw {hp:List Ob}:Bu hp .jk=none:=Eq.trans rfl rfl
theorem Ap3 {hp:List Ob}:Bo hp .jk=none:=Eq.trans rfl rfl
theorem Bb6 {hp:List Ob}:Bt hp .jk=[]:=Eq.trans rfl rfl
theorem Ant:Bc .jk=[]:=Eq.trans rfl rfl
theorem A4q:SV.closed .jk=false:=Eq.trans rfl rfl
theorem Ar2:SV.ok .jk=false:=Eq.trans rfl rfl
theorem A9i:Du .jk=false:=Eq.trans rfl rfl
theorem A2c:cellsOf .jk=[.jk]:=Eq.trans rfl rfl
theorem Azz {hp:List Ob}:Bu hp .undef=none:=Eq.trans rfl rfl
theorem Aof {hp:List Ob}:Bo hp .undef=none:=Eq.trans rfl rfl
theorem Aqh {hp:List Ob}:Bt hp .undef=[]:=Eq.trans rfl rfl
theorem Ast:Bc .undef=[]:=Eq.trans rfl rfl
theorem Ayd:SV.closed .undef=false:=Eq.trans rfl rfl
theorem A0d:SV.ok .undef=false:=Eq.trans rfl rfl
theorem Axr:Du .undef=false:=Eq.trans rfl rfl
theorem A9m:cellsOf .undef=[.undef]:=Eq.trans rfl rfl
theorem Atn {hp:List Ob} (o g e c:Nat):Bu hp (.ref o g e c)=(match hp[o]? with
  |some ob=>
   if ob.box=true/\ob.gen=g/\e=0 then
    if ob.cl then some (.dref ob.sz (ob.els.getD 0 []) c,fz hp o ob)
    else match Il hp (ob.els.getD 0 []) with
     |some (l',h)=>some (.dref ob.sz l' c,h.set o { ob with els:=[l'],frz:=1,cl:=true })
     |none=>none
   else none
  |none=>none):=Eq.trans rfl rfl
theorem A0u {hp:List Ob} (o g e c:Nat):Bo hp (.ref o g e c)=none:=Eq.trans rfl rfl
theorem Ao1 {hp:List Ob} (o g off len:Nat):Bu hp (.osl o g off len)=(match hp[o]? with
  |some ob=>if ob.box=false/\ob.gen=g then some (.dsl ob.sz ((ob.els.drop off).take len),fz hp o ob) else none
  |none=>none):=Eq.trans rfl rfl
theorem Ba5 {hp:List Ob} (o g off len:Nat):Bo hp (.osl o g off len)=(match hp[o]? with
  |some ob=>if ob.box=false/\ob.gen=g then some (.dsl ob.sz ((ob.els.drop off).take len),fz hp o ob) else none
  |none=>none):=Eq.trans rfl rfl
theorem Auc {hp:List Ob} (l:List SV):Bu hp (.agg false l)=(match Il hp l with
  |some (l',h)=>some (.agg true l',h)
  |none=>none):=Eq.trans rfl rfl
theorem Avp {hp:List Ob} (l:List SV):Bo hp (.agg false l)=none:=Eq.trans rfl rfl
theorem Auq {hp:List Ob} (o g e c:Nat):Bt hp (.ref o g e c)=o::(match hp[o]? with|some ob=>if ob.cl then [] else (ob.els.getD 0 []).flatMap Bc|none=>[]):=Eq.trans rfl rfl
theorem At4 {hp:List Ob} (o g off len:Nat):Bt hp (.osl o g off len)=[o]:=Eq.trans rfl rfl
theorem Ao0 {hp:List Ob} (l:List SV):Bt hp (.agg false l)=l.flatMap Bc:=Eq.trans rfl rfl
theorem Bes (o g e c:Nat):Bc (.ref o g e c)=[o]:=Eq.trans rfl rfl
theorem A4r (o g off len:Nat):Bc (.osl o g off len)=[o]:=Eq.trans rfl rfl
theorem Aqq (b:Bool) (l:List SV):Bc (.agg b l)=[]:=Eq.trans rfl rfl
theorem A5t (o g e c:Nat):SV.closed (.ref o g e c)=false:=Eq.trans rfl rfl
theorem Arm (o g e c:Nat):SV.ok (.ref o g e c)=true:=Eq.trans rfl rfl
theorem A7v (o g e c:Nat):Du (.ref o g e c)=false:=Eq.trans rfl rfl
theorem Bcq (o g e c:Nat):cellsOf (.ref o g e c)=[(.ref o g e c)]:=Eq.trans rfl rfl
theorem Bdb (o g off len:Nat):SV.closed (.osl o g off len)=false:=Eq.trans rfl rfl
theorem Axo (o g off len:Nat):SV.ok (.osl o g off len)=true:=Eq.trans rfl rfl
theorem Asc (o g off len:Nat):Du (.osl o g off len)=false:=Eq.trans rfl rfl
theorem Aoq (o g off len:Nat):cellsOf (.osl o g off len)=[(.osl o g off len)]:=Eq.trans rfl rfl
theorem Avv (b:Bool) (l:List SV):SV.closed (.agg b l)=b:=Eq.trans rfl rfl
theorem Bce (b:Bool) (l:List SV):SV.ok (.agg b l)=true:=Eq.trans rfl rfl
theorem Aut (b:Bool) (l:List SV):Du (.agg b l)=false:=Eq.trans rfl rfl
theorem Azh (kd:Nat) (op:BinOp) (k k':IntKind) (a b:Int):Dk kd op (.int k a) (.int k' b)=if kd=0/\k=k' then Aaw op k a b else none:=Eq.trans rfl rfl
theorem A1e (kd:Nat) (op:BinOp) (a b:Bool):Dk kd op (.bool a) (.bool b)=if kd=1 then eqB op (a==b) else none:=Eq.trans rfl rfl
theorem Ate (kd:Nat) (op:BinOp) (k k':FloatKind) (a b:Nat):Dk kd op (.float k a) (.float k' b)=if kd=3/\k=k' then Aah op k a b else none:=Eq.trans rfl rfl
theorem Bci (kd:Nat) (op:BinOp) (o g e c:Nat):Dk kd op (.ref o g e c) .nilp=if kd=2 then eqB op false else none:=Eq.trans rfl rfl
theorem Bc3 (kd:Nat) (op:BinOp) (z:Nat) (l:List SV) (c:Nat):Dk kd op (.dref z l c) .nilp=if kd=2 then eqB op false else none:=Eq.trans rfl rfl
theorem A6u (kd:Nat) (op:BinOp) (i c:Nat):Dk kd op (.gp i c) .nilp=if kd=2 then eqB op false else none:=Eq.trans rfl rfl
theorem Aur (kd:Nat) (op:BinOp):Dk kd op .nilp .nilp=if kd=2 then eqB op true else none:=Eq.trans rfl rfl
theorem A4e (n:Nat) (b:Bool):Be n (.bool b)=true:=Eq.trans rfl rfl
theorem Bag (n:Nat) (k:IntKind) (i:Int):Be n (.int k i)=true:=Eq.trans rfl rfl
theorem Avl (n:Nat) (k:FloatKind) (b:Nat):Be n (.float k b)=true:=Eq.trans rfl rfl
theorem A0i (n:Nat) (b:ByteArray):Be n (.str b)=true:=Eq.trans rfl rfl
theorem Bas (n:Nat) :Be n .nilp=true:=Eq.trans rfl rfl
theorem Aqf (n:Nat) :Be n .nils=true:=Eq.trans rfl rfl
theorem A5l (n:Nat) (z:Nat) (l:List SV) (c:Nat):Be n (.dref z l c)=true:=Eq.trans rfl rfl
theorem Att (n:Nat) (z:Nat) (l:List (List SV)):Be n (.dsl z l)=true:=Eq.trans rfl rfl
theorem A6n (n:Nat) (f:Nat):Be n (.fn f)=true:=Eq.trans rfl rfl
theorem Bdn (n:Nat) (i c:Nat):Be n (.gp i c)=true:=Eq.trans rfl rfl
theorem A7l (n:Nat) (i:Nat):Be n (.mp i)=true:=Eq.trans rfl rfl
theorem Aom (n:Nat) :Be n .nilm=true:=Eq.trans rfl rfl
theorem Anz (n:Nat) (t:Nat):Be n (.ife t)=true:=Eq.trans rfl rfl
theorem A2e (n:Nat) (l:List SV):Be n (.agg true l)=true:=Eq.trans rfl rfl
theorem Ay1 (n:Nat) :Be n .jk=true:=Eq.trans rfl rfl
theorem Awy (n:Nat) :Be n .undef=true:=Eq.trans rfl rfl
theorem Bex (n:Nat) (l:List SV):Be n (.tup l)=true:=Eq.trans rfl rfl
theorem A9q (n:Nat) (o g e c:Nat):Be n (.ref o g e c)=decide (o<n):=Eq.trans rfl rfl
theorem Aq5 (n:Nat) (o g off len:Nat):Be n (.osl o g off len)=decide (o<n):=Eq.trans rfl rfl
attribute [go_sem] A4e Bag Avl A0i Bas Aqf A5l Att A6n Bdn A7l Aom Anz A2e Ay1 Awy Bex A9q Aq5
theorem mp_t {l:List SV}:Dw (.undef::l)=true:=Eq.trans rfl rfl
theorem mp_n:Dw []=false:=Eq.trans rfl rfl
theorem Aqw {l:List (K3×SV)}:Dw (Gn l)=true:=Eq.trans rfl rfl
theorem As9 {k:IntKind} {n:Int} {l:List SV}:Dw (.int k n::l)=false:=Eq.trans rfl rfl
theorem A7r {b:Bool} {l:List SV}:Dw (.bool b::l)=false:=Eq.trans rfl rfl
theorem A5n {b:ByteArray} {l:List SV}:Dw (.str b::l)=false:=Eq.trans rfl rfl
theorem Ao9 {a b:Nat} {l:List SV}:Dw (.gp a b::l)=false:=Eq.trans rfl rfl
theorem Avu {a:Nat} {l:List SV}:Dw (.mp a::l)=false:=Eq.trans rfl rfl
theorem Ava {a c:Nat} {b:List SV} {l:List SV}:Dw (.dref a b c::l)=false:=Eq.trans rfl rfl
theorem As8 {a:Nat} {b:List (List SV)} {l:List SV}:Dw (.dsl a b::l)=false:=Eq.trans rfl rfl
theorem A1q  {l:List SV}:Dw (.nilp::l)=false:=Eq.trans rfl rfl
theorem Bal  {l:List SV}:Dw (.nils::l)=false:=Eq.trans rfl rfl
theorem Beq  {l:List SV}:Dw (.nilm::l)=false:=Eq.trans rfl rfl
theorem An6 {a:Nat} {l:List SV}:Dw (.ife a::l)=false:=Eq.trans rfl rfl
theorem Axh {a:Bool} {b:List SV} {l:List SV}:Dw (.agg a b::l)=false:=Eq.trans rfl rfl
theorem Bew {k:FloatKind} {b:Nat} {l:List SV}:Dw (.float k b::l)=false:=Eq.trans rfl rfl
theorem A7y {f:Nat} {l:List SV}:Dw (.fn f::l)=false:=Eq.trans rfl rfl
theorem Az2 {l:List SV}:pok 1 l=True:=by simp [pok]
theorem Bby {l:List SV}:pok 2 l=True:=by simp [pok]
theorem Anr {l:List SV}:pok 4 l=True:=by simp [pok]
theorem A2x {l:List SV}:pok 5 l=True:=by simp [pok]
theorem A3s {l:List SV}:pok 7 l=True:=by simp [pok]
theorem Auy {l:List SV}:pok 8 l=True:=by simp [pok]
theorem Aq1 {l:List SV}:pok 9 l=True:=by simp [pok]
theorem Bep {l:List SV}:pok 10 l=True:=by simp [pok]
theorem An5 {l:List SV}:pok 11 l=True:=by simp [pok]
theorem Bcc {l:List SV}:pok 12 l=True:=by simp [pok]
theorem Aqb {l:List SV}:pok 13 l=True:=by simp [pok]
theorem A6c {l:List SV}:pok 14 l=True:=by simp [pok]
theorem Bej {l:List SV}:pok 15 l=True:=by simp [pok]
theorem Aws {l:List SV}:pok 16 l=True:=by simp [pok]
theorem Atp {l:List SV}:pok 17 l=True:=by simp [pok]
theorem Asi {l:List SV}:pok 18 l=True:=by simp [pok]
theorem Arh {l:List SV}:pok 19 l=True:=by simp [pok]
theorem Beh {l:List SV}:pok 20 l=True:=by simp [pok]
theorem Arg {l:List SV}:pok 21 l=True:=by simp [pok]
theorem A7m {l:List SV}:pok 22 l=True:=by simp [pok]
theorem A8q {l:List SV}:pok 23 l=True:=by simp [pok]
theorem Avk {l:List SV}:pok 24 l=True:=by simp [pok]
theorem A5s {l:List SV}:pok 25 l=True:=by simp [pok]
theorem Au3 {l:List SV}:pok 26 l=True:=by simp [pok]
theorem A7z {l:List SV}:pok 27 l=True:=by simp [pok]
theorem Aob {l:List SV}:pok 28 l=True:=by simp [pok]
theorem A7u {l:List SV}:pok 29 l=True:=by simp [pok]
theorem Ba0 {l:List SV}:pok 30 l=True:=by simp [pok]
theorem Axv {l:List SV}:pok 31 l=True:=by simp [pok]
theorem A0n {l:List SV}:pok 32 l=True:=by simp [pok]
theorem Ato {l:List SV}:pok 33 l=True:=by simp [pok]
theorem Bbt {l:List SV}:pok 34 l=True:=by simp [pok]
theorem A6s {l:List SV}:pok 35 l=True:=by simp [pok]
theorem Apg {l:List SV}:pok 36 l=True:=by simp [pok]
theorem Aoy {l:List SV}:pok 37 l=True:=by simp [pok]
theorem A8p {l:List SV}:pok 38 l=True:=by simp [pok]
theorem Asr {l:List SV}:pok 39 l=True:=by simp [pok]
theorem Bdc {l:List SV}:pok 40 l=True:=by simp [pok]
theorem A7k {kd:Nat} {op:BinOp} {p:Bool} {b:SV}:Fr kd op (.bool p) b=none:=Eq.trans rfl rfl
theorem Bc2 {kd:Nat} {op:BinOp} {k:IntKind} {n:Int} {b:SV}:Fr kd op (.int k n) b=none:=Eq.trans rfl rfl
theorem Ap7 {kd:Nat} {op:BinOp} {k:FloatKind} {n:Nat} {b:SV}:Fr kd op (.float k n) b=none:=Eq.trans rfl rfl
theorem Bc5 {kd:Nat} {op:BinOp} {p:ByteArray} {b:SV}:Fr kd op (.str p) b=none:=Eq.trans rfl rfl
theorem Asn {kd:Nat} {op:BinOp}  {b:SV}:Fr kd op .nilp b=none:=Eq.trans rfl rfl
theorem Ao4 {kd:Nat} {op:BinOp}  {b:SV}:Fr kd op .nils b=none:=Eq.trans rfl rfl
theorem Ax4 {kd:Nat} {op:BinOp} {o1 o2 o3 o4:Nat} {b:SV}:Fr kd op (.ref o1 o2 o3 o4) b=none:=Eq.trans rfl rfl
theorem As0 {kd:Nat} {op:BinOp} {i c:Nat} {b:SV}:Fr kd op (.gp i c) b=none:=Eq.trans rfl rfl
theorem Azj {kd:Nat} {op:BinOp}  {b:SV}:Fr kd op .jk b=none:=Eq.trans rfl rfl
theorem Aoo {kd:Nat} {op:BinOp}  {b:SV}:Fr kd op .undef b=none:=Eq.trans rfl rfl
theorem Anv {kd:Nat} {op:BinOp} {i:Nat} {b:SV}:Fr kd op (.ife i) b=none:=Eq.trans rfl rfl
theorem At3 {kd:Nat} {op:BinOp} {i:Nat} {b:SV}:Fr kd op (.mp i) b=none:=Eq.trans rfl rfl
theorem A6j {kd:Nat} {op:BinOp}  {b:SV}:Fr kd op .nilm b=none:=Eq.trans rfl rfl
theorem Av5 {kd:Nat} {op:BinOp} {i:Nat} {b:SV}:Fr kd op (.fn i) b=none:=Eq.trans rfl rfl
theorem Bcn {kd:Nat} {op:BinOp} {a:SV}:Fr kd op a .nilp=none:=by cases a<;>rfl
theorem cmp_eq {z c z2 c2:Nat} {l l2:List SV} (h:psz l=true) (h2:psz l2=true):Fr 2 .eql (.dref z l c) (.dref z2 l2 c2)=some (.bool true,.bool false):=by simp [Fr,h,h2]
theorem Ap6 {z c z2 c2:Nat} {l l2:List SV} (h:psz l=true) (h2:psz l2=true):Fr 2 .neq (.dref z l c) (.dref z2 l2 c2)=some (.bool false,.bool true):=by simp [Fr,h,h2]
attribute [go_sem] A7k Bc2 Ap7 Bc5 Asn Ao4 Ax4 As0 Azj Aoo Anv At3 A6j Av5 Bcn cmp_eq Ap6 Az2 Bby Anr A2x A3s Auy Aq1 Bep An5 Bcc Aqb A6c Bej Aws Atp Asi Arh Beh Arg A7m A8q Avk A5s Au3 A7z Aob A7u Ba0 Axv A0n Ato Bbt A6s Apg Aoy A8p Asr Bdc Auk Atk Axa Aqi Azq A6p Ash Bfj Ar6 Avw A9a A4k Bc4 Bc7 Bek Aun Bbs Ap9 Awl Azk Ape Ay5 Bam Be7 Avy Ars Bdq Bbw A0h Arc Aot A0r Ay4 A4f Arz Apu Arr A6y Aq4 A6m Azm Au1 Bfi A3v Ap2 Auz A9n Ao3 A8v Bcm Bap Bdm Aue A2z A8c Ar0 Bev A3r A0a Awt Bbz At0 Aoi A6x Baa Bbv Au6 Aqy A5u Ax3 A4h Aup Apa Bcb Aus Bdt A0o A2t Avc Aqs Aze A5e Arn Ba9 Ayp Avz Bds A7o Aub Av0 Ax8 Az5 Av8 Ax2 Aoe Ax6 At8 Ayj Ay9 Ba7 A2r Awe Av7 Bcg A9o Awp Axw A3z A1h A8d A8i A5c Arw Ap3 Bb6 Ant A4q Ar2 A9i A2c Azz Aof Aqh Ast Ayd A0d Axr A9m Atn A0u Ao1 Ba5 Auc Avp Auq At4 Ao0 Bes A4r Aqq A5t Arm A7v Bcq Bdb Axo Asc Aoq Avv Bce Aut Azh A1e Ate Bci Bc3 A6u Aur Axq A3h Ard A6z A2q Bbj Az4 A8l A7b Ass Bd5 Axy A2h Bfo Ba8 A7i Aui Aoa Ao5 Bdy Azx adC mp_t Aqw mp_n As9 A7r A5n Ao9 Avu Ava As8 A1q Bal Beq An6 Axh Bew A7y Atd A6w Ark beq_true beq_false ev_F rt_n rt_r rt_e Awd lq_n lq_e lq_r Awr Ar1 sq_n sq_e sq_r bk_n bk_e bk_r Bfe Be2 Bd7 Bat A6i At5 Bbm Awx A5v Apk Axk Avn Bao Apq A4u Azl A6q Aq7 As4 Azc Beb A1b Bbb Ats A2v Arq Ayb A3j A9p A0q Aya Asl Avr Avg Ax5 A9w Awb Bbi A4j Ayl A1f A7a Ar8 Apt A1p A2p A9k A7x Bel A3w A0z Awj Azi Bbk A5a Aos Aqc Bb0 A0w A1d Bhq Bhp Asu Ayy A5r Bff A2y Ayv Az8 Arl Bbd Aux Aw8 A9x A4v Aqk Aox A4l Aug Aqa clear Qy Mx Aaz Cc Cv Cn Ny Gc reader Gd Ai Jn Rd Vj Ta Mu Lv Pn loB Tb Il Cz Tc fz Bcv Axu A9e Aoh Lp hv_0 hv_a hv_b hv_x hv_y hv_h Bcs Bbx Aaw Aah eqB Tf Asz A3q Lu Yl List.getD_cons_zero List.getD_cons_succ List.getD_nil List.set_cons_zero List.set_cons_succ List.set_nil List.getElem?_cons_zero List.getElem?_cons_succ List.getElem?_nil List.length_cons List.length_nil List.length_append List.length_set q_h q_i List.all_cons List.all_nil List.nil_append List.cons_append List.append_nil List.replicate_succ List.replicate_zero List.getElem?_append_left List.getElem?_append_right List.drop_succ_cons List.drop_zero List.take_succ_cons List.take_zero List.take_nil List.drop_nil List.mem_cons List.not_mem_nil List.contains_cons List.contains_nil List.getD_eq_getElem?_getD Option.getD_some Option.getD_none Bool.true_and Bool.and_true Bool.false_and Bool.and_false Bool.or_true Bool.true_or Bool.or_false Bool.false_or Bool.not_true Bool.not_false Bool.false_eq_true Bool.true_eq_false if_true if_false ite_true ite_false true_and and_true false_and and_false and_self or_true true_or or_false false_or not_true_eq_false not_false_eq_true ne_eq forall_const true_implies false_implies implies_true exists_eq_left exists_eq_left' exists_eq exists_const eq_self decide_true decide_false beq_self_eq_true Nat.zero_add Nat.add_zero Nat.sub_zero Nat.sub_self Nat.le_refl Nat.lt_irrefl Nat.zero_le Nat.zero_lt_succ Int.toNat_zero Int.toNat_natCast List.flatMap_cons List.flatMap_nil decide_eq_true_eq decide_eq_false_iff_not ge_iff_le gt_iff_lt Int.not_le Int.not_lt forall_eq forall_eq_or_imp Nat.not_lt_zero SV.int.injEq SV.bool.injEq Ag Int.cast_ofNat_Int BEq.rfl
theorem Aw0 (kd:Nat) (op:BinOp) (z:Nat) (l:List SV) (c:Nat):Dk kd op .nilp (.dref z l c)=if kd=2 then eqB op false else none:=Eq.trans rfl rfl
theorem Aw7 (kd:Nat) (op:BinOp) (i c:Nat):Dk kd op .nilp (.gp i c)=if kd=2 then eqB op false else none:=Eq.trans rfl rfl
attribute [go_sem] Ba6 Arp Bfq Bey As2 Ba1 Baw Aq8 Aw0 Aw7 Awq Ba3 Aow Ayg Ayo
def bs (l:List UInt8):ByteArray:=⟨l.toArray⟩
theorem Be3 (l:List UInt8):(bs l).size=l.length:=by simp [bs,ByteArray.size]
theorem Aj9 (l:List UInt8) (n:Nat):Vk (bs l) n=((l.getD n 0).toNat:Int):=by simp [bs,Vk]
theorem Asj (l:List UInt8) (a b:Nat):(bs l).extract a b=bs ((l.drop a).take (b-a)):=ByteArray.extract_mk l a b
theorem Avi (l:List UInt8):(bs l).toList=l:=ByteArray.toList_mk l
theorem A5h (kd:Nat) (op:BinOp) (a b:ByteArray):Dk kd op (.str a) (.str b)=if kd=4 then eqB op (a.toList==b.toList) else none:=Eq.trans rfl rfl
theorem A7t {k:IntKind} {n:Int} {b c:SV}:pok 3 [.int k n,b,c]=True:=by simp [pok,psz]
attribute [go_sem] Be3 Aj9 Asj Avi A5h A7t
def oP (d:Nat) (x:AOp):Av:=⟨some d,x,none,0,false,[]⟩
def oI (d i:Nat) (x:AOp):Av:=⟨some d,x,none,i,false,[]⟩
def oN (x:AOp):Av:=⟨none,x,none,0,false,[]⟩
def oJ (i:Nat) (x:AOp):Av:=⟨none,x,none,i,false,[]⟩
def oG (d g:Nat) (b:Bool) (i:Nat) (x:AOp):Av:=⟨some d,x,some (g,b),i,false,[]⟩
def mT (i:Nat):AOp:=.mv (.t i)
def cI (n:Int):AX:=.c (.int .i64 n)
def ldT (i:Nat):AOp:=.load false 1 (.t i)
def nkT (i:Nat):AOp:=.nilck (.t i)
def fdT (o i:Nat):AOp:=.fad o (.t i)
def cB (b:Bool):AX:=.c (.bool b)
def iS (n:Int):SV:=.int .i64 n
def rgF (l:List Av):AC:=.reg l false
def sqF (l:List Av) (c:AC):AC:=.seq (.reg l false) c
def sqT (l:List Av) (c:AC):AC:=.seq (.reg l true) c
attribute [go_sem] oP oI oN oJ oG mT cI ldT nkT fdT cB iS rgF sqF sqT
end Go.Proofs.YtdpigpopcbjkmaaGreatDoor.Abs
