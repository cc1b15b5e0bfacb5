import Derived.Test.YtdpigpopcbjkmaaGreatDoorXTm
import Derived.Attr
import Derived.Laws.Strings2
set_option linter.unusedSimpArgs false
set_option linter.unusedVariables false
set_option maxRecDepth 20000
set_option maxHeartbeats 4000000
namespace Go.Proofs.YtdpigpopcbjkmaaGreatDoor.Abs
open Go Go.RowKit
theorem Awx{hp:List Ob}(b:Bool):Bx hp (.bool b)=some ((.bool b),hp):=q_z
theorem Arx{hp:List Ob}(b:Bool):Bo hp (.bool b)=some ((.bool b),hp):=q_z
theorem A5y{hp:List Ob}(b:Bool):Bv hp (.bool b)=[]:=q_z
theorem A5a(b:Bool):Bf (.bool b)=[]:=q_z
theorem Asz(b:Bool):SV.closed (.bool b)=true:=q_z
theorem A9r(b:Bool):SV.ok (.bool b)=true:=q_z
theorem A2d(b:Bool):Eg (.bool b)=false:=q_z
theorem Asf(b:Bool):cellsOf (.bool b)=[(.bool b)]:=q_z
theorem Aw4{hp:List Ob}(k:IntKind)(n:Int):Bx hp (.int k n)=some ((.int k n),hp):=q_z
theorem Ar4{hp:List Ob}(k:IntKind)(n:Int):Bo hp (.int k n)=some ((.int k n),hp):=q_z
theorem A6f{hp:List Ob}(k:IntKind)(n:Int):Bv hp (.int k n)=[]:=q_z
theorem A5h(k:IntKind)(n:Int):Bf (.int k n)=[]:=q_z
theorem As6(k:IntKind)(n:Int):SV.closed (.int k n)=true:=q_z
theorem A9y(k:IntKind)(n:Int):SV.ok (.int k n)=true:=q_z
theorem A2k(k:IntKind)(n:Int):Eg (.int k n)=false:=q_z
theorem Asm(k:IntKind)(n:Int):cellsOf (.int k n)=[(.int k n)]:=q_z
theorem Aw0{hp:List Ob}(k:FloatKind)(n:Nat):Bx hp (.float k n)=some ((.float k n),hp):=q_z
theorem Ar0{hp:List Ob}(k:FloatKind)(n:Nat):Bo hp (.float k n)=some ((.float k n),hp):=q_z
theorem A6b{hp:List Ob}(k:FloatKind)(n:Nat):Bv hp (.float k n)=[]:=q_z
theorem A5d(k:FloatKind)(n:Nat):Bf (.float k n)=[]:=q_z
theorem As2(k:FloatKind)(n:Nat):SV.closed (.float k n)=true:=q_z
theorem A9u(k:FloatKind)(n:Nat):SV.ok (.float k n)=true:=q_z
theorem A2g(k:FloatKind)(n:Nat):Eg (.float k n)=false:=q_z
theorem Asi(k:FloatKind)(n:Nat):cellsOf (.float k n)=[(.float k n)]:=q_z
theorem Axc{hp:List Ob}(b:ByteArray):Bx hp (.str b)=some ((.str b),hp):=q_z
theorem Asc{hp:List Ob}(b:ByteArray):Bo hp (.str b)=some ((.str b),hp):=q_z
theorem A6n{hp:List Ob}(b:ByteArray):Bv hp (.str b)=[]:=q_z
theorem A5p(b:ByteArray):Bf (.str b)=[]:=q_z
theorem Ate(b:ByteArray):SV.closed (.str b)=true:=q_z
theorem Bah(b:ByteArray):SV.ok (.str b)=true:=q_z
theorem A2s(b:ByteArray):Eg (.str b)=false:=q_z
theorem Asu(b:ByteArray):cellsOf (.str b)=[(.str b)]:=q_z
theorem Aw8{hp:List Ob} :Bx hp .nilp=some (.nilp,hp):=q_z
theorem Ar8{hp:List Ob} :Bo hp .nilp=some (.nilp,hp):=q_z
theorem A6j{hp:List Ob} :Bv hp .nilp=[]:=q_z
theorem A5l :Bf .nilp=[]:=q_z
theorem Ata :SV.closed .nilp=true:=q_z
theorem Bac :SV.ok .nilp=true:=q_z
theorem A2o :Eg .nilp=false:=q_z
theorem Asq :cellsOf .nilp=[.nilp]:=q_z
theorem Aw9{hp:List Ob} :Bx hp .nils=some (.nils,hp):=q_z
theorem Ar9{hp:List Ob} :Bo hp .nils=some (.nils,hp):=q_z
theorem A6k{hp:List Ob} :Bv hp .nils=[]:=q_z
theorem A5m :Bf .nils=[]:=q_z
theorem Atb :SV.closed .nils=true:=q_z
theorem Bad :SV.ok .nils=true:=q_z
theorem A2p :Eg .nils=false:=q_z
theorem Asr :cellsOf .nils=[.nils]:=q_z
theorem Awy{hp:List Ob}(z:Nat)(l:List SV)(c:Nat):Bx hp (.dref z l c)=some ((.dref z l c),hp):=q_z
theorem Ary{hp:List Ob}(z:Nat)(l:List SV)(c:Nat):Bo hp (.dref z l c)=some ((.dref z l c),hp):=q_z
theorem A5z{hp:List Ob}(z:Nat)(l:List SV)(c:Nat):Bv hp (.dref z l c)=[]:=q_z
theorem A5b(z:Nat)(l:List SV)(c:Nat):Bf (.dref z l c)=[]:=q_z
theorem As0(z:Nat)(l:List SV)(c:Nat):SV.closed (.dref z l c)=true:=q_z
theorem A9s(z:Nat)(l:List SV)(c:Nat):SV.ok (.dref z l c)=true:=q_z
theorem A2e(z:Nat)(l:List SV)(c:Nat):Eg (.dref z l c)=false:=q_z
theorem Asg(z:Nat)(l:List SV)(c:Nat):cellsOf (.dref z l c)=[(.dref z l c)]:=q_z
theorem Awz{hp:List Ob}(z:Nat)(l:GV):Bx hp (.dsl z l)=some ((.dsl z l),hp):=q_z
theorem Arz{hp:List Ob}(z:Nat)(l:GV):Bo hp (.dsl z l)=some ((.dsl z l),hp):=q_z
theorem A6a{hp:List Ob}(z:Nat)(l:GV):Bv hp (.dsl z l)=[]:=q_z
theorem A5c(z:Nat)(l:GV):Bf (.dsl z l)=[]:=q_z
theorem As1(z:Nat)(l:GV):SV.closed (.dsl z l)=true:=q_z
theorem A9t(z:Nat)(l:GV):SV.ok (.dsl z l)=true:=q_z
theorem A2f(z:Nat)(l:GV):Eg (.dsl z l)=false:=q_z
theorem Ash(z:Nat)(l:GV):cellsOf (.dsl z l)=[(.dsl z l)]:=q_z
theorem Aw1{hp:List Ob}(f:Nat):Bx hp (.fn f)=some ((.fn f),hp):=q_z
theorem Ar1{hp:List Ob}(f:Nat):Bo hp (.fn f)=some ((.fn f),hp):=q_z
theorem A6c{hp:List Ob}(f:Nat):Bv hp (.fn f)=[]:=q_z
theorem A5e(f:Nat):Bf (.fn f)=[]:=q_z
theorem As3(f:Nat):SV.closed (.fn f)=true:=q_z
theorem A9v(f:Nat):SV.ok (.fn f)=true:=q_z
theorem A2h(f:Nat):Eg (.fn f)=false:=q_z
theorem Asj(f:Nat):cellsOf (.fn f)=[(.fn f)]:=q_z
theorem Aw2{hp:List Ob}(i c:Nat):Bx hp (.gp i c)=some ((.gp i c),hp):=q_z
theorem Ar2{hp:List Ob}(i c:Nat):Bo hp (.gp i c)=some ((.gp i c),hp):=q_z
theorem A6d{hp:List Ob}(i c:Nat):Bv hp (.gp i c)=[]:=q_z
theorem A5f(i c:Nat):Bf (.gp i c)=[]:=q_z
theorem As4(i c:Nat):SV.closed (.gp i c)=true:=q_z
theorem A9w(i c:Nat):SV.ok (.gp i c)=true:=q_z
theorem A2i(i c:Nat):Eg (.gp i c)=true:=q_z
theorem Ask(i c:Nat):cellsOf (.gp i c)=[(.gp i c)]:=q_z
theorem Aw6{hp:List Ob}(i:Nat):Bx hp (.mp i)=some ((.mp i),hp):=q_z
theorem Ar6{hp:List Ob}(i:Nat):Bo hp (.mp i)=some ((.mp i),hp):=q_z
theorem A6h{hp:List Ob}(i:Nat):Bv hp (.mp i)=[]:=q_z
theorem A5j(i:Nat):Bf (.mp i)=[]:=q_z
theorem As8(i:Nat):SV.closed (.mp i)=true:=q_z
theorem Baa(i:Nat):SV.ok (.mp i)=true:=q_z
theorem A2m(i:Nat):Eg (.mp i)=false:=q_z
theorem Aso(i:Nat):cellsOf (.mp i)=[(.mp i)]:=q_z
theorem Aw7{hp:List Ob} :Bx hp .nilm=some (.nilm,hp):=q_z
theorem Ar7{hp:List Ob} :Bo hp .nilm=some (.nilm,hp):=q_z
theorem A6i{hp:List Ob} :Bv hp .nilm=[]:=q_z
theorem A5k :Bf .nilm=[]:=q_z
theorem As9 :SV.closed .nilm=true:=q_z
theorem Bab :SV.ok .nilm=true:=q_z
theorem A2n :Eg .nilm=false:=q_z
theorem Asp :cellsOf .nilm=[.nilm]:=q_z
theorem Aw3{hp:List Ob}(t:Nat):Bx hp (.ife t)=some ((.ife t),hp):=q_z
theorem Ar3{hp:List Ob}(t:Nat):Bo hp (.ife t)=some ((.ife t),hp):=q_z
theorem A6e{hp:List Ob}(t:Nat):Bv hp (.ife t)=[]:=q_z
theorem A5g(t:Nat):Bf (.ife t)=[]:=q_z
theorem As5(t:Nat):SV.closed (.ife t)=true:=q_z
theorem A9x(t:Nat):SV.ok (.ife t)=true:=q_z
theorem A2j(t:Nat):Eg (.ife t)=false:=q_z
theorem Asl(t:Nat):cellsOf (.ife t)=[(.ife t)]:=q_z
theorem Aww{hp:List Ob}(l:List SV):Bx hp (.agg true l)=some ((.agg true l),hp):=q_z
theorem Arw{hp:List Ob}(l:List SV):Bo hp (.agg true l)=some ((.agg true l),hp):=q_z
theorem A5x{hp:List Ob}(l:List SV):Bv hp (.agg true l)=[]:=q_z
theorem A4z(l:List SV):Bf (.agg true l)=[]:=q_z
theorem Asy(l:List SV):SV.closed (.agg true l)=true:=q_z
theorem A9q(l:List SV):SV.ok (.agg true l)=true:=q_z
theorem A2c(l:List SV):Eg (.agg true l)=false:=q_z
theorem Ase(b:Bool)(l:List SV):cellsOf (.agg b l)=l:=q_z
theorem Aw5{hp:List Ob}:Bx hp .J=none:=q_z
theorem Ar5{hp:List Ob}:Bo hp .J=none:=q_z
theorem A6g{hp:List Ob}:Bv hp .J=[]:=q_z
theorem A5i:Bf .J=[]:=q_z
theorem As7:SV.closed .J=false:=q_z
theorem A9z:SV.ok .J=false:=q_z
theorem A2l:Eg .J=false:=q_z
theorem Asn:cellsOf .J=[.J]:=q_z
theorem Axd{hp:List Ob}:Bx hp .undef=none:=q_z
theorem Asd{hp:List Ob}:Bo hp .undef=none:=q_z
theorem A6o{hp:List Ob}:Bv hp .undef=[]:=q_z
theorem A5q:Bf .undef=[]:=q_z
theorem Atf:SV.closed .undef=false:=q_z
theorem Bai:SV.ok .undef=false:=q_z
theorem A2t:Eg .undef=false:=q_z
theorem Asv:cellsOf .undef=[.undef]:=q_z
theorem Axb{hp:List Ob}(o g e c:Nat):Bx hp (.ref o g e c)=(match hp[o]? with
  |some ob=>
   if ob.box=true/\ob.gen=g/\e=0 then
    if ob.cl then some (.dref ob.sz (ob.els.getD 0 []) c,fz hp o ob)
    else match Is hp (ob.els.getD 0 []) with
     |some (l',h)=>some (.dref ob.sz l' c,h.set o { ob with els:=[l'],frz:=1,cl:=true })
     |none=>none
   else none
  |none=>none):=q_z
theorem Asb{hp:List Ob}(o g e c:Nat):Bo hp (.ref o g e c)=none:=q_z
theorem Axa{hp:List Ob}(o g off len:Nat):Bx hp (.osl o g off len)=(match hp[o]? with
  |some ob=>if ob.box=false/\ob.gen=g then some (.dsl ob.sz ((ob.els.drop off).take len),fz hp o ob) else none
  |none=>none):=q_z
theorem Asa{hp:List Ob}(o g off len:Nat):Bo hp (.osl o g off len)=(match hp[o]? with
  |some ob=>if ob.box=false/\ob.gen=g then some (.dsl ob.sz ((ob.els.drop off).take len),fz hp o ob) else none
  |none=>none):=q_z
theorem Awv{hp:List Ob}(l:List SV):Bx hp (.agg false l)=(match Is hp l with
  |some (l',h)=>some (.agg true l',h)
  |none=>none):=q_z
theorem Arv{hp:List Ob}(l:List SV):Bo hp (.agg false l)=none:=q_z
theorem A6m{hp:List Ob}(o g e c:Nat):Bv hp (.ref o g e c)=o::(match hp[o]? with|some ob=>if ob.cl then [] else (ob.els.getD 0 []).flatMap Bf|none=>[]):=q_z
theorem A6l{hp:List Ob}(o g off len:Nat):Bv hp (.osl o g off len)=[o]:=q_z
theorem A5w{hp:List Ob}(l:List SV):Bv hp (.agg false l)=l.flatMap Bf:=q_z
theorem A5o(o g e c:Nat):Bf (.ref o g e c)=[o]:=q_z
theorem A5n(o g off len:Nat):Bf (.osl o g off len)=[o]:=q_z
theorem A4y(b:Bool)(l:List SV):Bf (.agg b l)=[]:=q_z
theorem Atd(o g e c:Nat):SV.closed (.ref o g e c)=false:=q_z
theorem Baf(o g e c:Nat):SV.ok (.ref o g e c)=true:=q_z
theorem A2r(o g e c:Nat):Eg (.ref o g e c)=false:=q_z
theorem Ast(o g e c:Nat):cellsOf (.ref o g e c)=[(.ref o g e c)]:=q_z
theorem Atc(o g off len:Nat):SV.closed (.osl o g off len)=false:=q_z
theorem Bae(o g off len:Nat):SV.ok (.osl o g off len)=true:=q_z
theorem A2q(o g off len:Nat):Eg (.osl o g off len)=false:=q_z
theorem Ass(o g off len:Nat):cellsOf (.osl o g off len)=[(.osl o g off len)]:=q_z
theorem Asx(b:Bool)(l:List SV):SV.closed (.agg b l)=b:=q_z
theorem A9p(b:Bool)(l:List SV):SV.ok (.agg b l)=true:=q_z
theorem A2b(b:Bool)(l:List SV):Eg (.agg b l)=false:=q_z
theorem Axp(kd:Nat)(op:BinOp)(k k':IntKind)(a b:Int):Dv kd op (.int k a) (.int k' b)=if kd=0/\k=k' then Zq op k a b else none:=q_z
theorem Axl(kd:Nat)(op:BinOp)(a b:Bool):Dv kd op (.bool a) (.bool b)=if kd=1 then eqB op (a==b) else none:=q_z
theorem Axn(kd:Nat)(op:BinOp)(k k':FloatKind)(a b:Nat):Dv kd op (.float k a) (.float k' b)=if kd=3/\k=k' then u7 op k a b else none:=q_z
theorem Axt(kd:Nat)(op:BinOp)(o g e c:Nat):Dv kd op (.ref o g e c) .nilp=if kd=2 then eqB op false else none:=q_z
theorem Axm(kd:Nat)(op:BinOp)(z:Nat)(l:List SV)(c:Nat):Dv kd op (.dref z l c) .nilp=if kd=2 then eqB op false else none:=q_z
theorem Axo(kd:Nat)(op:BinOp)(i c:Nat):Dv kd op (.gp i c) .nilp=if kd=2 then eqB op false else none:=q_z
theorem Axs(kd:Nat)(op:BinOp):Dv kd op .nilp .nilp=if kd=2 then eqB op true else none:=q_z
theorem Aqw(n:Nat)(b:Bool):Bb n (.bool b)=true:=q_z
theorem Aq3(n:Nat)(k:IntKind)(i:Int):Bb n (.int k i)=true:=q_z
theorem Aqz(n:Nat)(k:FloatKind)(b:Nat):Bb n (.float k b)=true:=q_z
theorem Arb(n:Nat)(b:ByteArray):Bb n (.str b)=true:=q_z
theorem Aq7(n:Nat) :Bb n .nilp=true:=q_z
theorem Aq8(n:Nat) :Bb n .nils=true:=q_z
theorem Aqx(n:Nat)(z:Nat)(l:List SV)(c:Nat):Bb n (.dref z l c)=true:=q_z
theorem Aqy(n:Nat)(z:Nat)(l:GV):Bb n (.dsl z l)=true:=q_z
theorem Aq0(n:Nat)(f:Nat):Bb n (.fn f)=true:=q_z
theorem Aq1(n:Nat)(i c:Nat):Bb n (.gp i c)=true:=q_z
theorem Aq5(n:Nat)(i:Nat):Bb n (.mp i)=true:=q_z
theorem Aq6(n:Nat) :Bb n .nilm=true:=q_z
theorem Aq2(n:Nat)(t:Nat):Bb n (.ife t)=true:=q_z
theorem Aqv(n:Nat)(l:List SV):Bb n (.agg true l)=true:=q_z
theorem Aq4(n:Nat) :Bb n .J=true:=q_z
theorem Ard(n:Nat) :Bb n .undef=true:=q_z
theorem Arc(n:Nat)(l:List SV):Bb n (.tup l)=true:=q_z
theorem Ara(n:Nat)(o g e c:Nat):Bb n (.ref o g e c)=decide (o<n):=q_z
theorem Aq9(n:Nat)(o g off len:Nat):Bb n (.osl o g off len)=decide (o<n):=q_z
attribute [go_sem] Aqw Aq3 Aqz Arb Aq7 Aq8 Aqx Aqy Aq0 Aq1 Aq5 Aq6 Aq2 Aqv Aq4 Ard Arc Ara Aq9
theorem mp_t{l:List SV}:Ec (.undef::l)=true:=q_z
theorem mp_n:Ec []=false:=q_z
theorem A8c{l:List (K3×SV)}:Ec (Hg l)=true:=q_z
theorem A8j{k:IntKind}{n:Int}{l:List SV}:Ec (.int k n::l)=false:=q_z
theorem A8b{b:Bool}{l:List SV}:Ec (.bool b::l)=false:=q_z
theorem A8o{b:ByteArray}{l:List SV}:Ec (.str b::l)=false:=q_z
theorem A8h{a b:Nat}{l:List SV}:Ec (.gp a b::l)=false:=q_z
theorem A8k{a:Nat}{l:List SV}:Ec (.mp a::l)=false:=q_z
theorem A8d{a c:Nat}{b:List SV}{l:List SV}:Ec (.dref a b c::l)=false:=q_z
theorem A8e{a:Nat}{b:GV}{l:List SV}:Ec (.dsl a b::l)=false:=q_z
theorem A8m  {l:List SV}:Ec (.nilp::l)=false:=q_z
theorem A8n  {l:List SV}:Ec (.nils::l)=false:=q_z
theorem A8l  {l:List SV}:Ec (.nilm::l)=false:=q_z
theorem A8i{a:Nat}{l:List SV}:Ec (.ife a::l)=false:=q_z
theorem A8a{a:Bool}{b:List SV}{l:List SV}:Ec (.agg a b::l)=false:=q_z
theorem A8f{k:FloatKind}{b:Nat}{l:List SV}:Ec (.float k b::l)=false:=q_z
theorem A8g{f:Nat}{l:List SV}:Ec (.fn f::l)=false:=q_z
theorem Bb7{l:List SV}:pok 1 l=True:=by simp[pok]
theorem Bci{l:List SV}:pok 2 l=True:=by simp[pok]
theorem Bc4{l:List SV}:pok 4 l=True:=by simp[pok]
theorem Bc6{l:List SV}:pok 5 l=True:=by simp[pok]
theorem Bc7{l:List SV}:pok 7 l=True:=by simp[pok]
theorem Bc8{l:List SV}:pok 8 l=True:=by simp[pok]
theorem Bc9{l:List SV}:pok 9 l=True:=by simp[pok]
theorem Bb8{l:List SV}:pok 10 l=True:=by simp[pok]
theorem Bb9{l:List SV}:pok 11 l=True:=by simp[pok]
theorem Bca{l:List SV}:pok 12 l=True:=by simp[pok]
theorem Bcb{l:List SV}:pok 13 l=True:=by simp[pok]
theorem Bcc{l:List SV}:pok 14 l=True:=by simp[pok]
theorem Bcd{l:List SV}:pok 15 l=True:=by simp[pok]
theorem Bce{l:List SV}:pok 16 l=True:=by simp[pok]
theorem Bcf{l:List SV}:pok 17 l=True:=by simp[pok]
theorem Bcg{l:List SV}:pok 18 l=True:=by simp[pok]
theorem Bch{l:List SV}:pok 19 l=True:=by simp[pok]
theorem Bcj{l:List SV}:pok 20 l=True:=by simp[pok]
theorem Bck{l:List SV}:pok 21 l=True:=by simp[pok]
theorem Bcl{l:List SV}:pok 22 l=True:=by simp[pok]
theorem Bcm{l:List SV}:pok 23 l=True:=by simp[pok]
theorem Bcn{l:List SV}:pok 24 l=True:=by simp[pok]
theorem Bco{l:List SV}:pok 25 l=True:=by simp[pok]
theorem Bcp{l:List SV}:pok 26 l=True:=by simp[pok]
theorem Bcq{l:List SV}:pok 27 l=True:=by simp[pok]
theorem Bcr{l:List SV}:pok 28 l=True:=by simp[pok]
theorem Bcs{l:List SV}:pok 29 l=True:=by simp[pok]
theorem Bct{l:List SV}:pok 30 l=True:=by simp[pok]
theorem Bcu{l:List SV}:pok 31 l=True:=by simp[pok]
theorem Bcv{l:List SV}:pok 32 l=True:=by simp[pok]
theorem Bcw{l:List SV}:pok 33 l=True:=by simp[pok]
theorem Bcx{l:List SV}:pok 34 l=True:=by simp[pok]
theorem Bcy{l:List SV}:pok 35 l=True:=by simp[pok]
theorem Bcz{l:List SV}:pok 36 l=True:=by simp[pok]
theorem Bc0{l:List SV}:pok 37 l=True:=by simp[pok]
theorem Bc1{l:List SV}:pok 38 l=True:=by simp[pok]
theorem Bc2{l:List SV}:pok 39 l=True:=by simp[pok]
theorem Bc5{l:List SV}:pok 40 l=True:=by simp[pok]
theorem Atl{kd:Nat}{op:BinOp}{p:Bool}{b:SV}:Gf kd op (.bool p) b=none:=q_z
theorem Atq{kd:Nat}{op:BinOp}{k:IntKind}{n:Int}{b:SV}:Gf kd op (.int k n) b=none:=q_z
theorem Atm{kd:Nat}{op:BinOp}{k:FloatKind}{n:Nat}{b:SV}:Gf kd op (.float k n) b=none:=q_z
theorem Atz{kd:Nat}{op:BinOp}{p:ByteArray}{b:SV}:Gf kd op (.str p) b=none:=q_z
theorem Atv{kd:Nat}{op:BinOp}  {b:SV}:Gf kd op .nilp b=none:=q_z
theorem Atw{kd:Nat}{op:BinOp}  {b:SV}:Gf kd op .nils b=none:=q_z
theorem Aty{kd:Nat}{op:BinOp}{o1 o2 o3 o4:Nat}{b:SV}:Gf kd op (.ref o1 o2 o3 o4) b=none:=q_z
theorem Ato{kd:Nat}{op:BinOp}{i c:Nat}{b:SV}:Gf kd op (.gp i c) b=none:=q_z
theorem Atr{kd:Nat}{op:BinOp}  {b:SV}:Gf kd op .J b=none:=q_z
theorem At0{kd:Nat}{op:BinOp}  {b:SV}:Gf kd op .undef b=none:=q_z
theorem Atp{kd:Nat}{op:BinOp}{i:Nat}{b:SV}:Gf kd op (.ife i) b=none:=q_z
theorem Ats{kd:Nat}{op:BinOp}{i:Nat}{b:SV}:Gf kd op (.mp i) b=none:=q_z
theorem Atu{kd:Nat}{op:BinOp}  {b:SV}:Gf kd op .nilm b=none:=q_z
theorem Atn{kd:Nat}{op:BinOp}{i:Nat}{b:SV}:Gf kd op (.fn i) b=none:=q_z
theorem Atx{kd:Nat}{op:BinOp}{a:SV}:Gf kd op a .nilp=none:=by cases a<;>rfl
theorem cmp_eq{z c z2 c2:Nat}{l l2:List SV}(h:psz l=true)(h2:psz l2=true):Gf 2 .eql (.dref z l c) (.dref z2 l2 c2)=some (.bool true,.bool false):=by simp[Gf,h,h2]
theorem Att{z c z2 c2:Nat}{l l2:List SV}(h:psz l=true)(h2:psz l2=true):Gf 2 .neq (.dref z l c) (.dref z2 l2 c2)=some (.bool false,.bool true):=by simp[Gf,h,h2]
attribute [go_sem] Atl Atq Atm Atz Atv Atw Aty Ato Atr At0 Atp Ats Atu Atn Atx cmp_eq Att Bb7 Bci Bc4 Bc6 Bc7 Bc8 Bc9 Bb8 Bb9 Bca Bcb Bcc Bcd Bce Bcf Bcg Bch Bcj Bck Bcl Bcm Bcn Bco Bcp Bcq Bcr Bcs Bct Bcu Bcv Bcw Bcx Bcy Bcz Bc0 Bc1 Bc2 Bc5 Awx Arx A5y A5a Asz A9r A2d Asf Aw4 Ar4 A6f A5h As6 A9y A2k Asm Aw0 Ar0 A6b A5d As2 A9u A2g Asi Axc Asc A6n A5p Ate Bah A2s Asu Aw8 Ar8 A6j A5l Ata Bac A2o Asq Aw9 Ar9 A6k A5m Atb Bad A2p Asr Awy Ary A5z A5b As0 A9s A2e Asg Awz Arz A6a A5c As1 A9t A2f Ash Aw1 Ar1 A6c A5e As3 A9v A2h Asj Aw2 Ar2 A6d A5f As4 A9w A2i Ask Aw6 Ar6 A6h A5j As8 Baa A2m Aso Aw7 Ar7 A6i A5k As9 Bab A2n Asp Aw3 Ar3 A6e A5g As5 A9x A2j Asl Aww Arw A5x A4z Asy A9q A2c Ase Aw5 Ar5 A6g A5i As7 A9z A2l Asn Axd Asd A6o A5q Atf Bai A2t Asv Axb Asb Axa Asa Awv Arv A6m A6l A5w A5o A5n A4y Atd Baf A2r Ast Atc Bae A2q Ass Asx A9p A2b Axp Axl Axn Axt Axm Axo Axs Ax9 Beq Bes Ber Bet Bep A0r Bdj Bdi A1x Azz Ay5 A0h A0c Azi Ayh Ayu Az6 Azc Az2 Ay8 adC mp_t A8c mp_n A8j A8b A8o A8h A8k A8d A8e A8m A8n A8l A8i A8a A8f A8g A2w A2u A2v beq_true beq_false ev_F rt_n rt_r rt_e A0q lq_n lq_e lq_r Bdl Bdk sq_n sq_e sq_r bk_n bk_e bk_r A0x A0p Azr A0n A0o A0t Ayf Aym A0d A0f Ayn Ayo Azy A0w A0j A0k Ayk Ayl A0i A1l A1k A1n A1m Azj A0g Ayz Ay0 Azx A0v Ayx Ayy Azm Azw Azv A0m A0l A1b A1c A0a Azg A0b Azh Ayg Ayt Ayj Ayw Ayi Ayv Az4 Aza A0z Azp A0e Azk Aye Ays A1a Azq Ayp Ay1 Az0 Ay6 Az5 Azb A0y Azo Azt Ay3 Azu Ay4 Az1 Ay7 Az3 Ay9 Ayc Ayq Azs Ay2 Az8 Aze clear Rh Od Aay Cx Dd Cu Pl Gr reader Gy Ai Jx Rg Vh Sz Na Lz Pp loB Tf Is Dg Td fz Awt Awq Awo Bfp Mw hv_0 hv_a hv_b hv_x hv_y hv_h A4w A4v Zq u7 eqB Ut A1j A1i Mv g9 List.getD_cons_zero List.getD_cons_succ List.getD_nil List.set_cons_zero List.set_cons_succ List.set_nil List.getElem?_cons_zero List.getElem?_cons_succ List.getElem?_nil List.length_cons List.length_nil List.length_append List.length_set q_h q_i List.all_cons List.all_nil List.nil_append List.cons_append List.append_nil List.replicate_succ List.replicate_zero List.getElem?_append_left List.getElem?_append_right List.drop_succ_cons List.drop_zero List.take_succ_cons List.take_zero List.take_nil List.drop_nil List.mem_cons List.not_mem_nil List.contains_cons List.contains_nil List.getD_eq_getElem?_getD Option.getD_some Option.getD_none Bool.true_and Bool.and_true Bool.false_and Bool.and_false Bool.or_true Bool.true_or Bool.or_false Bool.false_or Bool.not_true Bool.not_false Bool.false_eq_true Bool.true_eq_false if_true if_false ite_true ite_false true_and and_true false_and and_false and_self or_true true_or or_false false_or not_true_eq_false not_false_eq_true ne_eq forall_const true_implies false_implies implies_true exists_eq_left exists_eq_left' exists_eq exists_const eq_self decide_true decide_false beq_self_eq_true Nat.zero_add Nat.add_zero Nat.sub_zero Nat.sub_self Nat.le_refl Nat.lt_irrefl Nat.zero_le Nat.zero_lt_succ Int.toNat_zero Int.toNat_natCast List.flatMap_cons List.flatMap_nil decide_eq_true_eq decide_eq_false_iff_not ge_iff_le gt_iff_lt Int.not_le Int.not_lt forall_eq forall_eq_or_imp Nat.not_lt_zero SV.int.injEq SV.bool.injEq Af Int.cast_ofNat_Int BEq.rfl
theorem Axq(kd:Nat)(op:BinOp)(z:Nat)(l:List SV)(c:Nat):Dv kd op .nilp (.dref z l c)=if kd=2 then eqB op false else none:=q_z
theorem Axr(kd:Nat)(op:BinOp)(i c:Nat):Dv kd op .nilp (.gp i c)=if kd=2 then eqB op false else none:=q_z
attribute [go_sem] A0u Azn Ayd Ayr Az7 Azd Az9 Azf Axq Axr Aya Bew Bex Bev A0s
def bs(l:List UInt8):ByteArray:=⟨l.toArray⟩
theorem Arr(l:List UInt8):(bs l).size=l.length:=by simp[bs,ByteArray.size]
theorem Ahc(l:List UInt8)(n:Nat):Vm (bs l) n=((l.getD n 0).toNat:Int):=by simp[bs,Vm]
theorem Arp(l:List UInt8)(a b:Nat):(bs l).extract a b=bs ((l.drop a).take (b-a)):=ByteArray.extract_mk l a b
theorem Arq(l:List UInt8):(bs l).toList=l:=ByteArray.toList_mk l
theorem Axu(kd:Nat)(op:BinOp)(a b:ByteArray):Dv kd op (.str a) (.str b)=if kd=4 then eqB op (a.toList==b.toList) else none:=q_z
theorem Bc3{k:IntKind}{n:Int}{b c:SV}:pok 3 [.int k n,b,c]=True:=by simp[pok,psz]
attribute [go_sem] Arr Ahc Arp Arq Axu Bc3
def oP(d:Nat)(x:AOp):Ba:=⟨some d,x,none,0,false,[]⟩
def oI(d i:Nat)(x:AOp):Ba:=⟨some d,x,none,i,false,[]⟩
def oN(x:AOp):Ba:=⟨none,x,none,0,false,[]⟩
def oJ(i:Nat)(x:AOp):Ba:=⟨none,x,none,i,false,[]⟩
def oG(d g:Nat)(b:Bool)(i:Nat)(x:AOp):Ba:=⟨some d,x,some (g,b),i,false,[]⟩
def mT(i:Nat):AOp:=.mv (.t i)
def cI(n:Int):AX:=.c (.int .i64 n)
def ldT(i:Nat):AOp:=.load false 1 (.t i)
def nkT(i:Nat):AOp:=.nilck (.t i)
def fdT(o i:Nat):AOp:=.fad o (.t i)
def cB(b:Bool):AX:=.c (.bool b)
def iS(n:Int):SV:=.int .i64 n
def rgF(l:List Ba):AC:=.reg l false
def sqF(l:List Ba)(c:AC):AC:=.seq (.reg l false) c
def sqT(l:List Ba)(c:AC):AC:=.seq (.reg l true) c
attribute [go_sem] oP oI oN oJ oG mT cI ldT nkT fdT cB iS rgF sqF sqT
end Go.Proofs.YtdpigpopcbjkmaaGreatDoor.Abs
