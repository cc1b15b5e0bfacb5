import Derived.Test.YtdpigpopcbjkmaaGreatDoorYTm
import Derived.Attr
import Derived.Laws.Strings2
set_option linter.unusedSimpArgs false
set_option linter.unusedVariables false
set_option maxRecDepth 20000
set_option maxHeartbeats 4000000
namespace Go.Proofs.YtdpigpopcbjkmaaGreatDoor.Abs
open Go Go.RowKit
theorem Awj{hp:List Ob}(b:Bool):Bx hp (.bool b)=some ((.bool b),hp):=q_z
theorem Arj{hp:List Ob}(b:Bool):Bo hp (.bool b)=some ((.bool b),hp):=q_z
theorem A5n{hp:List Ob}(b:Bool):Bv hp (.bool b)=[]:=q_z
theorem A4p(b:Bool):Bd (.bool b)=[]:=q_z
theorem Asl(b:Bool):SV.closed (.bool b)=true:=q_z
theorem A9j(b:Bool):SV.ok (.bool b)=true:=q_z
theorem A1r(b:Bool):Ee (.bool b)=false:=q_z
theorem Ar1(b:Bool):cellsOf (.bool b)=[(.bool b)]:=q_z
theorem Awq{hp:List Ob}(k:IntKind)(n:Int):Bx hp (.int k n)=some ((.int k n),hp):=q_z
theorem Arq{hp:List Ob}(k:IntKind)(n:Int):Bo hp (.int k n)=some ((.int k n),hp):=q_z
theorem A5u{hp:List Ob}(k:IntKind)(n:Int):Bv hp (.int k n)=[]:=q_z
theorem A4w(k:IntKind)(n:Int):Bd (.int k n)=[]:=q_z
theorem Ass(k:IntKind)(n:Int):SV.closed (.int k n)=true:=q_z
theorem A9q(k:IntKind)(n:Int):SV.ok (.int k n)=true:=q_z
theorem A1y(k:IntKind)(n:Int):Ee (.int k n)=false:=q_z
theorem Ar8(k:IntKind)(n:Int):cellsOf (.int k n)=[(.int k n)]:=q_z
theorem Awm{hp:List Ob}(k:FloatKind)(n:Nat):Bx hp (.float k n)=some ((.float k n),hp):=q_z
theorem Arm{hp:List Ob}(k:FloatKind)(n:Nat):Bo hp (.float k n)=some ((.float k n),hp):=q_z
theorem A5q{hp:List Ob}(k:FloatKind)(n:Nat):Bv hp (.float k n)=[]:=q_z
theorem A4s(k:FloatKind)(n:Nat):Bd (.float k n)=[]:=q_z
theorem Aso(k:FloatKind)(n:Nat):SV.closed (.float k n)=true:=q_z
theorem A9m(k:FloatKind)(n:Nat):SV.ok (.float k n)=true:=q_z
theorem A1u(k:FloatKind)(n:Nat):Ee (.float k n)=false:=q_z
theorem Ar4(k:FloatKind)(n:Nat):cellsOf (.float k n)=[(.float k n)]:=q_z
theorem Awy{hp:List Ob}(b:ByteArray):Bx hp (.str b)=some ((.str b),hp):=q_z
theorem Ary{hp:List Ob}(b:ByteArray):Bo hp (.str b)=some ((.str b),hp):=q_z
theorem A6c{hp:List Ob}(b:ByteArray):Bv hp (.str b)=[]:=q_z
theorem A5e(b:ByteArray):Bd (.str b)=[]:=q_z
theorem As0(b:ByteArray):SV.closed (.str b)=true:=q_z
theorem A9z(b:ByteArray):SV.ok (.str b)=true:=q_z
theorem A2g(b:ByteArray):Ee (.str b)=false:=q_z
theorem Asg(b:ByteArray):cellsOf (.str b)=[(.str b)]:=q_z
theorem Awu{hp:List Ob} :Bx hp .nilp=some (.nilp,hp):=q_z
theorem Aru{hp:List Ob} :Bo hp .nilp=some (.nilp,hp):=q_z
theorem A5y{hp:List Ob} :Bv hp .nilp=[]:=q_z
theorem A5a :Bd .nilp=[]:=q_z
theorem Asw :SV.closed .nilp=true:=q_z
theorem A9u :SV.ok .nilp=true:=q_z
theorem A2c :Ee .nilp=false:=q_z
theorem Asc :cellsOf .nilp=[.nilp]:=q_z
theorem Awv{hp:List Ob} :Bx hp .nils=some (.nils,hp):=q_z
theorem Arv{hp:List Ob} :Bo hp .nils=some (.nils,hp):=q_z
theorem A5z{hp:List Ob} :Bv hp .nils=[]:=q_z
theorem A5b :Bd .nils=[]:=q_z
theorem Asx :SV.closed .nils=true:=q_z
theorem A9v :SV.ok .nils=true:=q_z
theorem A2d :Ee .nils=false:=q_z
theorem Asd :cellsOf .nils=[.nils]:=q_z
theorem Awk{hp:List Ob}(z:Nat)(l:List SV)(c:Nat):Bx hp (.dref z l c)=some ((.dref z l c),hp):=q_z
theorem Ark{hp:List Ob}(z:Nat)(l:List SV)(c:Nat):Bo hp (.dref z l c)=some ((.dref z l c),hp):=q_z
theorem A5o{hp:List Ob}(z:Nat)(l:List SV)(c:Nat):Bv hp (.dref z l c)=[]:=q_z
theorem A4q(z:Nat)(l:List SV)(c:Nat):Bd (.dref z l c)=[]:=q_z
theorem Asm(z:Nat)(l:List SV)(c:Nat):SV.closed (.dref z l c)=true:=q_z
theorem A9k(z:Nat)(l:List SV)(c:Nat):SV.ok (.dref z l c)=true:=q_z
theorem A1s(z:Nat)(l:List SV)(c:Nat):Ee (.dref z l c)=false:=q_z
theorem Ar2(z:Nat)(l:List SV)(c:Nat):cellsOf (.dref z l c)=[(.dref z l c)]:=q_z
theorem Awl{hp:List Ob}(z:Nat)(l:GV):Bx hp (.dsl z l)=some ((.dsl z l),hp):=q_z
theorem Arl{hp:List Ob}(z:Nat)(l:GV):Bo hp (.dsl z l)=some ((.dsl z l),hp):=q_z
theorem A5p{hp:List Ob}(z:Nat)(l:GV):Bv hp (.dsl z l)=[]:=q_z
theorem A4r(z:Nat)(l:GV):Bd (.dsl z l)=[]:=q_z
theorem Asn(z:Nat)(l:GV):SV.closed (.dsl z l)=true:=q_z
theorem A9l(z:Nat)(l:GV):SV.ok (.dsl z l)=true:=q_z
theorem A1t(z:Nat)(l:GV):Ee (.dsl z l)=false:=q_z
theorem Ar3(z:Nat)(l:GV):cellsOf (.dsl z l)=[(.dsl z l)]:=q_z
theorem Awn{hp:List Ob}(f:Nat):Bx hp (.fn f)=some ((.fn f),hp):=q_z
theorem Arn{hp:List Ob}(f:Nat):Bo hp (.fn f)=some ((.fn f),hp):=q_z
theorem A5r{hp:List Ob}(f:Nat):Bv hp (.fn f)=[]:=q_z
theorem A4t(f:Nat):Bd (.fn f)=[]:=q_z
theorem Asp(f:Nat):SV.closed (.fn f)=true:=q_z
theorem A9n(f:Nat):SV.ok (.fn f)=true:=q_z
theorem A1v(f:Nat):Ee (.fn f)=false:=q_z
theorem Ar5(f:Nat):cellsOf (.fn f)=[(.fn f)]:=q_z
theorem Awo{hp:List Ob}(i c:Nat):Bx hp (.gp i c)=some ((.gp i c),hp):=q_z
theorem Aro{hp:List Ob}(i c:Nat):Bo hp (.gp i c)=some ((.gp i c),hp):=q_z
theorem A5s{hp:List Ob}(i c:Nat):Bv hp (.gp i c)=[]:=q_z
theorem A4u(i c:Nat):Bd (.gp i c)=[]:=q_z
theorem Asq(i c:Nat):SV.closed (.gp i c)=true:=q_z
theorem A9o(i c:Nat):SV.ok (.gp i c)=true:=q_z
theorem A1w(i c:Nat):Ee (.gp i c)=true:=q_z
theorem Ar6(i c:Nat):cellsOf (.gp i c)=[(.gp i c)]:=q_z
theorem Aws{hp:List Ob}(i:Nat):Bx hp (.mp i)=some ((.mp i),hp):=q_z
theorem Ars{hp:List Ob}(i:Nat):Bo hp (.mp i)=some ((.mp i),hp):=q_z
theorem A5w{hp:List Ob}(i:Nat):Bv hp (.mp i)=[]:=q_z
theorem A4y(i:Nat):Bd (.mp i)=[]:=q_z
theorem Asu(i:Nat):SV.closed (.mp i)=true:=q_z
theorem A9s(i:Nat):SV.ok (.mp i)=true:=q_z
theorem A2a(i:Nat):Ee (.mp i)=false:=q_z
theorem Asa(i:Nat):cellsOf (.mp i)=[(.mp i)]:=q_z
theorem Awt{hp:List Ob} :Bx hp .nilm=some (.nilm,hp):=q_z
theorem Art{hp:List Ob} :Bo hp .nilm=some (.nilm,hp):=q_z
theorem A5x{hp:List Ob} :Bv hp .nilm=[]:=q_z
theorem A4z :Bd .nilm=[]:=q_z
theorem Asv :SV.closed .nilm=true:=q_z
theorem A9t :SV.ok .nilm=true:=q_z
theorem A2b :Ee .nilm=false:=q_z
theorem Asb :cellsOf .nilm=[.nilm]:=q_z
theorem Awp{hp:List Ob}(t:Nat):Bx hp (.ife t)=some ((.ife t),hp):=q_z
theorem Arp{hp:List Ob}(t:Nat):Bo hp (.ife t)=some ((.ife t),hp):=q_z
theorem A5t{hp:List Ob}(t:Nat):Bv hp (.ife t)=[]:=q_z
theorem A4v(t:Nat):Bd (.ife t)=[]:=q_z
theorem Asr(t:Nat):SV.closed (.ife t)=true:=q_z
theorem A9p(t:Nat):SV.ok (.ife t)=true:=q_z
theorem A1x(t:Nat):Ee (.ife t)=false:=q_z
theorem Ar7(t:Nat):cellsOf (.ife t)=[(.ife t)]:=q_z
theorem Awi{hp:List Ob}(l:List SV):Bx hp (.agg true l)=some ((.agg true l),hp):=q_z
theorem Ari{hp:List Ob}(l:List SV):Bo hp (.agg true l)=some ((.agg true l),hp):=q_z
theorem A5m{hp:List Ob}(l:List SV):Bv hp (.agg true l)=[]:=q_z
theorem A4o(l:List SV):Bd (.agg true l)=[]:=q_z
theorem Ask(l:List SV):SV.closed (.agg true l)=true:=q_z
theorem A9i(l:List SV):SV.ok (.agg true l)=true:=q_z
theorem A1q(l:List SV):Ee (.agg true l)=false:=q_z
theorem Ar0(b:Bool)(l:List SV):cellsOf (.agg b l)=l:=q_z
theorem Awr{hp:List Ob}:Bx hp .J=none:=q_z
theorem Arr{hp:List Ob}:Bo hp .J=none:=q_z
theorem A5v{hp:List Ob}:Bv hp .J=[]:=q_z
theorem A4x:Bd .J=[]:=q_z
theorem Ast:SV.closed .J=false:=q_z
theorem A9r:SV.ok .J=false:=q_z
theorem A1z:Ee .J=false:=q_z
theorem Ar9:cellsOf .J=[.J]:=q_z
theorem Awz{hp:List Ob}:Bx hp .undef=none:=q_z
theorem Arz{hp:List Ob}:Bo hp .undef=none:=q_z
theorem A6d{hp:List Ob}:Bv hp .undef=[]:=q_z
theorem A5f:Bd .undef=[]:=q_z
theorem As1:SV.closed .undef=false:=q_z
theorem Baa:SV.ok .undef=false:=q_z
theorem A2h:Ee .undef=false:=q_z
theorem Ash:cellsOf .undef=[.undef]:=q_z
theorem Awx{hp:List Ob}(o g e c:Nat):Bx hp (.ref o g e c)=(match hp[o]? with
  |some ob=>
   if ob.box=true/\ob.gen=g/\e=0 then
    if ob.cl then some (.dref ob.sz (ob.els.getD 0 []) c,fz hp o ob)
    else match Iq hp (ob.els.getD 0 []) with
     |some (l',h)=>some (.dref ob.sz l' c,h.set o { ob with els:=[l'],frz:=1,cl:=true })
     |none=>none
   else none
  |none=>none):=q_z
theorem Arx{hp:List Ob}(o g e c:Nat):Bo hp (.ref o g e c)=none:=q_z
theorem Aww{hp:List Ob}(o g off len:Nat):Bx hp (.osl o g off len)=(match hp[o]? with
  |some ob=>if ob.box=false/\ob.gen=g then some (.dsl ob.sz ((ob.els.drop off).take len),fz hp o ob) else none
  |none=>none):=q_z
theorem Arw{hp:List Ob}(o g off len:Nat):Bo hp (.osl o g off len)=(match hp[o]? with
  |some ob=>if ob.box=false/\ob.gen=g then some (.dsl ob.sz ((ob.els.drop off).take len),fz hp o ob) else none
  |none=>none):=q_z
theorem Awh{hp:List Ob}(l:List SV):Bx hp (.agg false l)=(match Iq hp l with
  |some (l',h)=>some (.agg true l',h)
  |none=>none):=q_z
theorem Arh{hp:List Ob}(l:List SV):Bo hp (.agg false l)=none:=q_z
theorem A6b{hp:List Ob}(o g e c:Nat):Bv hp (.ref o g e c)=o::(match hp[o]? with|some ob=>if ob.cl then [] else (ob.els.getD 0 []).flatMap Bd|none=>[]):=q_z
theorem A6a{hp:List Ob}(o g off len:Nat):Bv hp (.osl o g off len)=[o]:=q_z
theorem A5l{hp:List Ob}(l:List SV):Bv hp (.agg false l)=l.flatMap Bd:=q_z
theorem A5d(o g e c:Nat):Bd (.ref o g e c)=[o]:=q_z
theorem A5c(o g off len:Nat):Bd (.osl o g off len)=[o]:=q_z
theorem A4n(b:Bool)(l:List SV):Bd (.agg b l)=[]:=q_z
theorem Asz(o g e c:Nat):SV.closed (.ref o g e c)=false:=q_z
theorem A9x(o g e c:Nat):SV.ok (.ref o g e c)=true:=q_z
theorem A2f(o g e c:Nat):Ee (.ref o g e c)=false:=q_z
theorem Asf(o g e c:Nat):cellsOf (.ref o g e c)=[(.ref o g e c)]:=q_z
theorem Asy(o g off len:Nat):SV.closed (.osl o g off len)=false:=q_z
theorem A9w(o g off len:Nat):SV.ok (.osl o g off len)=true:=q_z
theorem A2e(o g off len:Nat):Ee (.osl o g off len)=false:=q_z
theorem Ase(o g off len:Nat):cellsOf (.osl o g off len)=[(.osl o g off len)]:=q_z
theorem Asj(b:Bool)(l:List SV):SV.closed (.agg b l)=b:=q_z
theorem A9h(b:Bool)(l:List SV):SV.ok (.agg b l)=true:=q_z
theorem A1p(b:Bool)(l:List SV):Ee (.agg b l)=false:=q_z
theorem Axb(kd:Nat)(op:BinOp)(k k':IntKind)(a b:Int):Dt kd op (.int k a) (.int k' b)=if kd=0/\k=k' then Ze op k a b else none:=q_z
theorem Aw7(kd:Nat)(op:BinOp)(a b:Bool):Dt kd op (.bool a) (.bool b)=if kd=1 then eqB op (a==b) else none:=q_z
theorem Aw9(kd:Nat)(op:BinOp)(k k':FloatKind)(a b:Nat):Dt kd op (.float k a) (.float k' b)=if kd=3/\k=k' then r9 op k a b else none:=q_z
theorem Axf(kd:Nat)(op:BinOp)(o g e c:Nat):Dt kd op (.ref o g e c) .nilp=if kd=2 then eqB op false else none:=q_z
theorem Aw8(kd:Nat)(op:BinOp)(z:Nat)(l:List SV)(c:Nat):Dt kd op (.dref z l c) .nilp=if kd=2 then eqB op false else none:=q_z
theorem Axa(kd:Nat)(op:BinOp)(i c:Nat):Dt kd op (.gp i c) .nilp=if kd=2 then eqB op false else none:=q_z
theorem Axe(kd:Nat)(op:BinOp):Dt kd op .nilp .nilp=if kd=2 then eqB op true else none:=q_z
theorem Aqi(n:Nat)(b:Bool):Ba n (.bool b)=true:=q_z
theorem Aqp(n:Nat)(k:IntKind)(i:Int):Ba n (.int k i)=true:=q_z
theorem Aql(n:Nat)(k:FloatKind)(b:Nat):Ba n (.float k b)=true:=q_z
theorem Aqx(n:Nat)(b:ByteArray):Ba n (.str b)=true:=q_z
theorem Aqt(n:Nat) :Ba n .nilp=true:=q_z
theorem Aqu(n:Nat) :Ba n .nils=true:=q_z
theorem Aqj(n:Nat)(z:Nat)(l:List SV)(c:Nat):Ba n (.dref z l c)=true:=q_z
theorem Aqk(n:Nat)(z:Nat)(l:GV):Ba n (.dsl z l)=true:=q_z
theorem Aqm(n:Nat)(f:Nat):Ba n (.fn f)=true:=q_z
theorem Aqn(n:Nat)(i c:Nat):Ba n (.gp i c)=true:=q_z
theorem Aqr(n:Nat)(i:Nat):Ba n (.mp i)=true:=q_z
theorem Aqs(n:Nat) :Ba n .nilm=true:=q_z
theorem Aqo(n:Nat)(t:Nat):Ba n (.ife t)=true:=q_z
theorem Aqh(n:Nat)(l:List SV):Ba n (.agg true l)=true:=q_z
theorem Aqq(n:Nat) :Ba n .J=true:=q_z
theorem Aqz(n:Nat) :Ba n .undef=true:=q_z
theorem Aqy(n:Nat)(l:List SV):Ba n (.tup l)=true:=q_z
theorem Aqw(n:Nat)(o g e c:Nat):Ba n (.ref o g e c)=decide (o<n):=q_z
theorem Aqv(n:Nat)(o g off len:Nat):Ba n (.osl o g off len)=decide (o<n):=q_z
attribute [go_sem] Aqi Aqp Aql Aqx Aqt Aqu Aqj Aqk Aqm Aqn Aqr Aqs Aqo Aqh Aqq Aqz Aqy Aqw Aqv
theorem mp_t{l:List SV}:Ec (.undef::l)=true:=q_z
theorem mp_n:Ec []=false:=q_z
theorem A7r{l:List (K3×SV)}:Ec (Hd l)=true:=q_z
theorem A7y{k:IntKind}{n:Int}{l:List SV}:Ec (.int k n::l)=false:=q_z
theorem A7q{b:Bool}{l:List SV}:Ec (.bool b::l)=false:=q_z
theorem A8d{b:ByteArray}{l:List SV}:Ec (.str b::l)=false:=q_z
theorem A7w{a b:Nat}{l:List SV}:Ec (.gp a b::l)=false:=q_z
theorem A7z{a:Nat}{l:List SV}:Ec (.mp a::l)=false:=q_z
theorem A7s{a c:Nat}{b:List SV}{l:List SV}:Ec (.dref a b c::l)=false:=q_z
theorem A7t{a:Nat}{b:GV}{l:List SV}:Ec (.dsl a b::l)=false:=q_z
theorem A8b  {l:List SV}:Ec (.nilp::l)=false:=q_z
theorem A8c  {l:List SV}:Ec (.nils::l)=false:=q_z
theorem A8a  {l:List SV}:Ec (.nilm::l)=false:=q_z
theorem A7x{a:Nat}{l:List SV}:Ec (.ife a::l)=false:=q_z
theorem A7p{a:Bool}{b:List SV}{l:List SV}:Ec (.agg a b::l)=false:=q_z
theorem A7u{k:FloatKind}{b:Nat}{l:List SV}:Ec (.float k b::l)=false:=q_z
theorem A7v{f:Nat}{l:List SV}:Ec (.fn f::l)=false:=q_z
theorem Bbv{l:List SV}:pok 1 l=True:=by simp[pok]
theorem Bb6{l:List SV}:pok 2 l=True:=by simp[pok]
theorem Bcs{l:List SV}:pok 4 l=True:=by simp[pok]
theorem Bcu{l:List SV}:pok 5 l=True:=by simp[pok]
theorem Bcv{l:List SV}:pok 7 l=True:=by simp[pok]
theorem Bcw{l:List SV}:pok 8 l=True:=by simp[pok]
theorem Bcx{l:List SV}:pok 9 l=True:=by simp[pok]
theorem Bbw{l:List SV}:pok 10 l=True:=by simp[pok]
theorem Bbx{l:List SV}:pok 11 l=True:=by simp[pok]
theorem Bby{l:List SV}:pok 12 l=True:=by simp[pok]
theorem Bbz{l:List SV}:pok 13 l=True:=by simp[pok]
theorem Bb0{l:List SV}:pok 14 l=True:=by simp[pok]
theorem Bb1{l:List SV}:pok 15 l=True:=by simp[pok]
theorem Bb2{l:List SV}:pok 16 l=True:=by simp[pok]
theorem Bb3{l:List SV}:pok 17 l=True:=by simp[pok]
theorem Bb4{l:List SV}:pok 18 l=True:=by simp[pok]
theorem Bb5{l:List SV}:pok 19 l=True:=by simp[pok]
theorem Bb7{l:List SV}:pok 20 l=True:=by simp[pok]
theorem Bb8{l:List SV}:pok 21 l=True:=by simp[pok]
theorem Bb9{l:List SV}:pok 22 l=True:=by simp[pok]
theorem Bca{l:List SV}:pok 23 l=True:=by simp[pok]
theorem Bcb{l:List SV}:pok 24 l=True:=by simp[pok]
theorem Bcc{l:List SV}:pok 25 l=True:=by simp[pok]
theorem Bcd{l:List SV}:pok 26 l=True:=by simp[pok]
theorem Bce{l:List SV}:pok 27 l=True:=by simp[pok]
theorem Bcf{l:List SV}:pok 28 l=True:=by simp[pok]
theorem Bcg{l:List SV}:pok 29 l=True:=by simp[pok]
theorem Bch{l:List SV}:pok 30 l=True:=by simp[pok]
theorem Bci{l:List SV}:pok 31 l=True:=by simp[pok]
theorem Bcj{l:List SV}:pok 32 l=True:=by simp[pok]
theorem Bck{l:List SV}:pok 33 l=True:=by simp[pok]
theorem Bcl{l:List SV}:pok 34 l=True:=by simp[pok]
theorem Bcm{l:List SV}:pok 35 l=True:=by simp[pok]
theorem Bcn{l:List SV}:pok 36 l=True:=by simp[pok]
theorem Bco{l:List SV}:pok 37 l=True:=by simp[pok]
theorem Bcp{l:List SV}:pok 38 l=True:=by simp[pok]
theorem Bcq{l:List SV}:pok 39 l=True:=by simp[pok]
theorem Bct{l:List SV}:pok 40 l=True:=by simp[pok]
theorem As7{kd:Nat}{op:BinOp}{p:Bool}{b:SV}:Fz kd op (.bool p) b=none:=q_z
theorem Atc{kd:Nat}{op:BinOp}{k:IntKind}{n:Int}{b:SV}:Fz kd op (.int k n) b=none:=q_z
theorem As8{kd:Nat}{op:BinOp}{k:FloatKind}{n:Nat}{b:SV}:Fz kd op (.float k n) b=none:=q_z
theorem Atl{kd:Nat}{op:BinOp}{p:ByteArray}{b:SV}:Fz kd op (.str p) b=none:=q_z
theorem Ath{kd:Nat}{op:BinOp}  {b:SV}:Fz kd op .nilp b=none:=q_z
theorem Ati{kd:Nat}{op:BinOp}  {b:SV}:Fz kd op .nils b=none:=q_z
theorem Atk{kd:Nat}{op:BinOp}{o1 o2 o3 o4:Nat}{b:SV}:Fz kd op (.ref o1 o2 o3 o4) b=none:=q_z
theorem Ata{kd:Nat}{op:BinOp}{i c:Nat}{b:SV}:Fz kd op (.gp i c) b=none:=q_z
theorem Atd{kd:Nat}{op:BinOp}  {b:SV}:Fz kd op .J b=none:=q_z
theorem Atm{kd:Nat}{op:BinOp}  {b:SV}:Fz kd op .undef b=none:=q_z
theorem Atb{kd:Nat}{op:BinOp}{i:Nat}{b:SV}:Fz kd op (.ife i) b=none:=q_z
theorem Ate{kd:Nat}{op:BinOp}{i:Nat}{b:SV}:Fz kd op (.mp i) b=none:=q_z
theorem Atg{kd:Nat}{op:BinOp}  {b:SV}:Fz kd op .nilm b=none:=q_z
theorem As9{kd:Nat}{op:BinOp}{i:Nat}{b:SV}:Fz kd op (.fn i) b=none:=q_z
theorem Atj{kd:Nat}{op:BinOp}{a:SV}:Fz kd op a .nilp=none:=by cases a<;>rfl
theorem cmp_eq{z c z2 c2:Nat}{l l2:List SV}(h:psz l=true)(h2:psz l2=true):Fz 2 .eql (.dref z l c) (.dref z2 l2 c2)=some (.bool true,.bool false):=by simp[Fz,h,h2]
theorem Atf{z c z2 c2:Nat}{l l2:List SV}(h:psz l=true)(h2:psz l2=true):Fz 2 .neq (.dref z l c) (.dref z2 l2 c2)=some (.bool false,.bool true):=by simp[Fz,h,h2]
attribute [go_sem] As7 Atc As8 Atl Ath Ati Atk Ata Atd Atm Atb Ate Atg As9 Atj cmp_eq Atf Bbv Bb6 Bcs Bcu Bcv Bcw Bcx Bbw Bbx Bby Bbz Bb0 Bb1 Bb2 Bb3 Bb4 Bb5 Bb7 Bb8 Bb9 Bca Bcb Bcc Bcd Bce Bcf Bcg Bch Bci Bcj Bck Bcl Bcm Bcn Bco Bcp Bcq Bct Awj Arj A5n A4p Asl A9j A1r Ar1 Awq Arq A5u A4w Ass A9q A1y Ar8 Awm Arm A5q A4s Aso A9m A1u Ar4 Awy Ary A6c A5e As0 A9z A2g Asg Awu Aru A5y A5a Asw A9u A2c Asc Awv Arv A5z A5b Asx A9v A2d Asd Awk Ark A5o A4q Asm A9k A1s Ar2 Awl Arl A5p A4r Asn A9l A1t Ar3 Awn Arn A5r A4t Asp A9n A1v Ar5 Awo Aro A5s A4u Asq A9o A1w Ar6 Aws Ars A5w A4y Asu A9s A2a Asa Awt Art A5x A4z Asv A9t A2b Asb Awp Arp A5t A4v Asr A9p A1x Ar7 Awi Ari A5m A4o Ask A9i A1q Ar0 Awr Arr A5v A4x Ast A9r A1z Ar9 Awz Arz A6d A5f As1 Baa A2h Ash Awx Arx Aww Arw Awh Arh A6b A6a A5l A5d A5c A4n Asz A9x A2f Asf Asy A9w A2e Ase Asj A9h A1p Axb Aw7 Aw9 Axf Aw8 Axa Axe Axu Bd9 Beb Bea Bec Bd8 A0c Bc5 Bc4 A1l Azk Ayq Az2 Azx Ay3 Ax2 Ayf Azr Ayx Azn Ayt adC mp_t A7r mp_n A7y A7q A8d A7w A7z A7s A7t A8b A8c A8a A7x A7p A7u A7v A2k A2i A2j beq_true beq_false ev_F rt_n rt_r rt_e A0b lq_n lq_e lq_r Bc7 Bc6 sq_n sq_e sq_r bk_n bk_e bk_r A0i A0a Azc Az8 Az9 A0e Ax0 Ax7 Azy Az0 Ax8 Ax9 Azj A0h Az4 Az5 Ax5 Ax6 Az3 A1b A1a A1d A1c Ay4 Az1 Ayk Ayl Azi A0g Ayi Ayj Ay7 Azh Azg Az7 Az6 A0m A0n Azv Ay1 Azw Ay2 Ax1 Aye Ax4 Ayh Ax3 Ayg Azp Ayv A0k Aza Azz Ay5 Axz Ayd A0l Azb Aya Aym Azl Ayr Azq Ayw A0j Ay9 Aze Ayo Azf Ayp Azm Ays Azo Ayu Axx Ayb Azd Ayn Azt Ayz clear Rb Oa Aaq Cx Dd Cv Pl Gm reader Gt Ai Js Ra Vb Sw Nb Ma Pp loB Td Iq Dh Tb fz Awf Awc Awa Bfa Mx hv_0 hv_a hv_b hv_x hv_y hv_h A4l A4k Ze r9 eqB Un A0z A0y Mw Zt List.getD_cons_zero List.getD_cons_succ List.getD_nil List.set_cons_zero List.set_cons_succ List.set_nil List.getElem?_cons_zero List.getElem?_cons_succ List.getElem?_nil List.length_cons List.length_nil List.length_append List.length_set q_h q_i List.all_cons List.all_nil List.nil_append List.cons_append List.append_nil List.replicate_succ List.replicate_zero List.getElem?_append_left List.getElem?_append_right List.drop_succ_cons List.drop_zero List.take_succ_cons List.take_zero List.take_nil List.drop_nil List.mem_cons List.not_mem_nil List.contains_cons List.contains_nil List.getD_eq_getElem?_getD Option.getD_some Option.getD_none Bool.true_and Bool.and_true Bool.false_and Bool.and_false Bool.or_true Bool.true_or Bool.or_false Bool.false_or Bool.not_true Bool.not_false Bool.false_eq_true Bool.true_eq_false if_true if_false ite_true ite_false true_and and_true false_and and_false and_self or_true true_or or_false false_or not_true_eq_false not_false_eq_true ne_eq forall_const true_implies false_implies implies_true exists_eq_left exists_eq_left' exists_eq exists_const eq_self decide_true decide_false beq_self_eq_true Nat.zero_add Nat.add_zero Nat.sub_zero Nat.sub_self Nat.le_refl Nat.lt_irrefl Nat.zero_le Nat.zero_lt_succ Int.toNat_zero Int.toNat_natCast List.flatMap_cons List.flatMap_nil decide_eq_true_eq decide_eq_false_iff_not ge_iff_le gt_iff_lt Int.not_le Int.not_lt forall_eq forall_eq_or_imp Nat.not_lt_zero SV.int.injEq SV.bool.injEq Ae Int.cast_ofNat_Int BEq.rfl
theorem Axc(kd:Nat)(op:BinOp)(z:Nat)(l:List SV)(c:Nat):Dt kd op .nilp (.dref z l c)=if kd=2 then eqB op false else none:=q_z
theorem Axd(kd:Nat)(op:BinOp)(i c:Nat):Dt kd op .nilp (.gp i c)=if kd=2 then eqB op false else none:=q_z
attribute [go_sem] A0f Ay8 Axy Ayc Azs Ayy Azu Ay0 Axc Axd Axv Bef Beg Bee A0d
def bs(l:List UInt8):ByteArray:=⟨l.toArray⟩
theorem Ard(l:List UInt8):(bs l).size=l.length:=by simp[bs,ByteArray.size]
theorem Ahd(l:List UInt8)(n:Nat):Vf (bs l) n=((l.getD n 0).toNat:Int):=by simp[bs,Vf]
theorem Arb(l:List UInt8)(a b:Nat):(bs l).extract a b=bs ((l.drop a).take (b-a)):=ByteArray.extract_mk l a b
theorem Arc(l:List UInt8):(bs l).toList=l:=ByteArray.toList_mk l
theorem Axg(kd:Nat)(op:BinOp)(a b:ByteArray):Dt kd op (.str a) (.str b)=if kd=4 then eqB op (a.toList==b.toList) else none:=q_z
theorem Bcr{k:IntKind}{n:Int}{b c:SV}:pok 3 [.int k n,b,c]=True:=by simp[pok,psz]
attribute [go_sem] Ard Ahd Arb Arc Axg Bcr
def oP(d:Nat)(x:AOp):Az:=⟨some d,x,none,0,false,[]⟩
def oI(d i:Nat)(x:AOp):Az:=⟨some d,x,none,i,false,[]⟩
def oN(x:AOp):Az:=⟨none,x,none,0,false,[]⟩
def oJ(i:Nat)(x:AOp):Az:=⟨none,x,none,i,false,[]⟩
def oG(d g:Nat)(b:Bool)(i:Nat)(x:AOp):Az:=⟨some d,x,some (g,b),i,false,[]⟩
def mT(i:Nat):AOp:=.mv (.t i)
def cI(n:Int):AX:=.c (.int .i64 n)
def ldT(i:Nat):AOp:=.load false 1 (.t i)
def nkT(i:Nat):AOp:=.nilck (.t i)
def fdT(o i:Nat):AOp:=.fad o (.t i)
def cB(b:Bool):AX:=.c (.bool b)
def iS(n:Int):SV:=.int .i64 n
def rgF(l:List Az):AC:=.reg l false
def sqF(l:List Az)(c:AC):AC:=.seq (.reg l false) c
def sqT(l:List Az)(c:AC):AC:=.seq (.reg l true) c
attribute [go_sem] oP oI oN oJ oG mT cI ldT nkT fdT cB iS rgF sqF sqT
end Go.Proofs.YtdpigpopcbjkmaaGreatDoor.Abs
