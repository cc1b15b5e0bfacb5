import Derived.Test.YtgfehkhcmnfpaaaGreatDoorVTm
import Derived.Attr
import Derived.Laws.Strings2
set_option linter.all false
set_option maxRecDepth 20000
set_option maxHeartbeats 4000000
namespace Go.Proofs.YtgfehkhcmnfpaaaGreatDoor.Abs
open Go Go.RowKit
def Ar2{hp:List Ob}(b:Bool):Dl hp (.bool b)=some ((.bool b),hp):=q_z
def Aot{hp:List Ob}(b:Bool):Dn hp (.bool b)=some ((.bool b),hp):=q_z
def Axw{hp:List Ob}(b:Bool):Ec hp (.bool b)=[]:=q_z
def Apb(b:Bool):SV.closed (.bool b)=true:=q_z
def Azz(b:Bool):SV.ok (.bool b)=true:=q_z
def Aoz(b:Bool):cellsOf (.bool b)=[(.bool b)]:=q_z
def Ar6{hp:List Ob}(k:IntKind)(n:Int):Dl hp (.int k n)=some ((.int k n),hp):=q_z
def Aov{hp:List Ob}(k:IntKind)(n:Int):Dn hp (.int k n)=some ((.int k n),hp):=q_z
def Axz{hp:List Ob}(k:IntKind)(n:Int):Ec hp (.int k n)=[]:=q_z
def Apg(k:IntKind)(n:Int):SV.closed (.int k n)=true:=q_z
def Az4(k:IntKind)(n:Int):SV.ok (.int k n)=true:=q_z
def Ao4(k:IntKind)(n:Int):cellsOf (.int k n)=[(.int k n)]:=q_z
def Ar4{hp:List Ob}(k:FloatKind)(n:Nat):Dl hp (.float k n)=some ((.float k n),hp):=q_z
def Ape(k:FloatKind)(n:Nat):SV.closed (.float k n)=true:=q_z
def Az2(k:FloatKind)(n:Nat):SV.ok (.float k n)=true:=q_z
def Ao2(k:FloatKind)(n:Nat):cellsOf (.float k n)=[(.float k n)]:=q_z
def Asb{hp:List Ob}(b:ByteArray):Dl hp (.str b)=some ((.str b),hp):=q_z
def Ax1{hp:List Ob}(b:ByteArray):Ec hp (.str b)=[]:=q_z
def Axh(b:ByteArray):Dh (.str b)=[]:=q_z
def Apk(b:ByteArray):SV.closed (.str b)=true:=q_z
def Az8(b:ByteArray):SV.ok (.str b)=true:=q_z
def Ao8(b:ByteArray):cellsOf (.str b)=[(.str b)]:=q_z
def Ar7{hp:List Ob} :Dl hp .nilp=some (.nilp,hp):=q_z
def Ax0{hp:List Ob} :Ec hp .nilp=[]:=q_z
def Ar8{hp:List Ob} :Dl hp .nils=some (.nils,hp):=q_z
def Aow{hp:List Ob} :Dn hp .nils=some (.nils,hp):=q_z
def Api :SV.closed .nils=true:=q_z
def Az6 :SV.ok .nils=true:=q_z
def Ao6 :cellsOf .nils=[.nils]:=q_z
def Axd(z:Nat)(l:List SV)(c:Nat):Dh (.dref z l c)=[]:=q_z
def Apc(z:Nat)(l:List SV)(c:Nat):SV.closed (.dref z l c)=true:=q_z
def Az0(z:Nat)(l:List SV)(c:Nat):SV.ok (.dref z l c)=true:=q_z
def Av2(z:Nat)(l:List SV)(c:Nat):Ka (.dref z l c)=false:=q_z
def Ao0(z:Nat)(l:List SV)(c:Nat):cellsOf (.dref z l c)=[(.dref z l c)]:=q_z
def Ar3{hp:List Ob}(z:Nat)(l:GV):Dl hp (.dsl z l)=some ((.dsl z l),hp):=q_z
def Aou{hp:List Ob}(z:Nat)(l:GV):Dn hp (.dsl z l)=some ((.dsl z l),hp):=q_z
def Axx{hp:List Ob}(z:Nat)(l:GV):Ec hp (.dsl z l)=[]:=q_z
def Axe(z:Nat)(l:GV):Dh (.dsl z l)=[]:=q_z
def Apd(z:Nat)(l:GV):SV.closed (.dsl z l)=true:=q_z
def Az1(z:Nat)(l:GV):SV.ok (.dsl z l)=true:=q_z
def Ao1(z:Nat)(l:GV):cellsOf (.dsl z l)=[(.dsl z l)]:=q_z
def Ar5{hp:List Ob}(i c:Nat):Dl hp (.gp i c)=some ((.gp i c),hp):=q_z
def Axy{hp:List Ob}(i c:Nat):Ec hp (.gp i c)=[]:=q_z
def Apf(i c:Nat):SV.closed (.gp i c)=true:=q_z
def Az3(i c:Nat):SV.ok (.gp i c)=true:=q_z
def Av3(i c:Nat):Ka (.gp i c)=true:=q_z
def Ao3(i c:Nat):cellsOf (.gp i c)=[(.gp i c)]:=q_z
def Aph(i:Nat):SV.closed (.mp i)=true:=q_z
def Az5(i:Nat):SV.ok (.mp i)=true:=q_z
def Ao5(i:Nat):cellsOf (.mp i)=[(.mp i)]:=q_z
def Ar1{hp:List Ob}(l:List SV):Dl hp (.agg true l)=some ((.agg true l),hp):=q_z
def Axv{hp:List Ob}(l:List SV):Ec hp (.agg true l)=[]:=q_z
def Aoy(b:Bool)(l:List SV):cellsOf (.agg b l)=l:=q_z
def Asa{hp:List Ob}(o g e c:Nat):Dl hp (.ref o g e c)=(match hp[o]? with
  |some ob=>
   if ob.box=true/\ob.gen=g/\e=0 then
    if ob.cl then some (.dref ob.sz (ob.els.getD 0 []) c,fz hp o ob)
    else match Jg hp (ob.els.getD 0 []) with
     |some (l',h)=>some (.dref ob.sz l' c,h.set o { ob with els:=[l'],frz:=1,cl:=true })
     |none=>none
   else none
  |none=>none):=q_z
def Ar9{hp:List Ob}(o g off len:Nat):Dl hp (.osl o g off len)=(match hp[o]? with
  |some ob=>if ob.box=false/\ob.gen=g then some (.dsl ob.sz ((ob.els.drop off).take len),fz hp o ob) else none
  |none=>none):=q_z
def Aox{hp:List Ob}(o g off len:Nat):Dn hp (.osl o g off len)=(match hp[o]? with
  |some ob=>if ob.box=false/\ob.gen=g then some (.dsl ob.sz ((ob.els.drop off).take len),fz hp o ob) else none
  |none=>none):=q_z
def Ar0{hp:List Ob}(l:List SV):Dl hp (.agg false l)=(match Jg hp l with
  |some (l',h)=>some (.agg true l',h)
  |none=>none):=q_z
def Axg(o g e c:Nat):Dh (.ref o g e c)=[o]:=q_z
def Axf(o g off len:Nat):Dh (.osl o g off len)=[o]:=q_z
def Av4(o g e c:Nat):Ka (.ref o g e c)=false:=q_z
def Apj(o g off len:Nat):SV.closed (.osl o g off len)=false:=q_z
def Az7(o g off len:Nat):SV.ok (.osl o g off len)=true:=q_z
def Ao7(o g off len:Nat):cellsOf (.osl o g off len)=[(.osl o g off len)]:=q_z
def Apa(b:Bool)(l:List SV):SV.closed (.agg b l)=b:=q_z
def Azy(b:Bool)(l:List SV):SV.ok (.agg b l)=true:=q_z
def Aso(kd:Nat)(op:BinOp)(k k':IntKind)(a b:Int):Fq kd op (.int k a) (.int k' b)=if kd=0/\k=k' then Zm op k a b else none:=q_z
def Asm(kd:Nat)(op:BinOp)(a b:Bool):Fq kd op (.bool a) (.bool b)=if kd=1 then eqB op (a==b) else none:=q_z
def Asp(kd:Nat)(op:BinOp):Fq kd op .nilp .nilp=if kd=2 then eqB op true else none:=q_z
def Aoi(n:Nat)(k:IntKind)(i:Int):below n (.int k i)=true:=q_z
def Aog(n:Nat)(z:Nat)(l:GV):below n (.dsl z l)=true:=q_z
def Aoh(n:Nat)(i c:Nat):below n (.gp i c)=true:=q_z
def Aoj(n:Nat) :below n .J=true:=q_z
def Aok(n:Nat)(o g e c:Nat):below n (.ref o g e c)=decide (o<n):=q_z
attribute [go_sem] Aoi Aog Aoh Aoj Aok
def Azb{k:IntKind}{n:Int}{l:List SV}:Mb (.int k n::l)=false:=q_z
def Azd{b:ByteArray}{l:List SV}:Mb (.str b::l)=false:=q_z
def Aza{a b:Nat}{l:List SV}:Mb (.gp a b::l)=false:=q_z
def Ay9{a:Nat}{b:GV}{l:List SV}:Mb (.dsl a b::l)=false:=q_z
def Azc  {l:List SV}:Mb (.nils::l)=false:=q_z
def A0r{l:List SV}:pok 1 l=True:=by simp[pok]
def A0t{l:List SV}:pok 5 l=True:=by simp[pok]
def Apr{kd:Nat}{op:BinOp}{k:IntKind}{n:Int}{b:SV}:Pn kd op (.int k n) b=none:=q_z
def Apt{kd:Nat}{op:BinOp}{p:ByteArray}{b:SV}:Pn kd op (.str p) b=none:=q_z
def Apq{kd:Nat}{op:BinOp}{i c:Nat}{b:SV}:Pn kd op (.gp i c) b=none:=q_z
def Aps{kd:Nat}{op:BinOp}{a:SV}:Pn kd op a .nilp=none:=by cases a<;>rfl
attribute [go_sem] Apr Apt Apq Aps A0r A0t Ar2 Aot Axw Apb Azz Aoz Ar6 Aov Axz Apg Az4 Ao4 Ar4 Ape Az2 Ao2 Asb Ax1 Axh Apk Az8 Ao8 Ar7 Ax0 Ar8 Aow Api Az6 Ao6 Axd Apc Az0 Av2 Ao0 Ar3 Aou Axx Axe Apd Az1 Ao1 Ar5 Axy Apf Az3 Av3 Ao3 Aph Az5 Ao5 Ar1 Axv Aoy Asa Ar9 Aox Ar0 Axg Axf Av4 Apj Az7 Ao7 Apa Azy Aso Asm Asp Ata A2g A2h Au4 A0z A0y Avw Aui Atx Atf Aun adC Azb Azd Aza Ay9 Azc Awb Av9 Awa beq_true beq_false ev_F rt_n rt_r Au3 lq_n lq_e lq_r A1b A1a sq_n sq_e sq_r bk_n bk_e bk_r Ava Au2 Aub Au0 Au1 Au6 Atn Atd Atj Aur Aut Atk Atl Auh Au9 Auw Aux Ati Auv Avl Avm At4 Auu Att Atu Aug Au8 Ats At6 Auf Aue Auz Auy Ave Aup At2 Auq At3 Ate Ath Atr Atg Atq Aul At0 Avc At9 Aus At5 Atc Atp Avd Aua Atm Aum Avb At8 Aud Atw Auj Aty Auk Atz Atb Ato Auc Atv Auo At1 clear Qw Ol Aay Dr Ea Dt Pi Hd reader Hi Bj Kg Qv Uq Sj Ni Mj Pl loB Sm Jg Eo Sk fz Arz Arv A2w Abk hv_0 Zm Ac5 eqB Ub Avk Avj Nb Zv List.getD_cons_zero List.getD_cons_succ List.getD_nil List.set_cons_zero List.set_cons_succ List.set_nil List.getElem?_cons_zero List.getElem?_cons_succ List.getElem?_nil List.length_cons List.length_nil List.length_append List.length_set List.map_cons List.map_nil List.all_cons List.all_nil List.nil_append List.cons_append List.append_nil List.replicate_succ List.replicate_zero List.getElem?_append_left List.getElem?_append_right List.drop_succ_cons List.drop_zero List.take_succ_cons List.take_zero List.take_nil List.drop_nil List.mem_cons List.not_mem_nil List.contains_cons List.contains_nil List.getD_eq_getElem?_getD Option.getD_some Option.getD_none Bool.true_and Bool.and_true Bool.false_and Bool.and_false Bool.or_true Bool.true_or Bool.or_false Bool.false_or Bool.not_true Bool.not_false Bool.false_eq_true Bool.true_eq_false if_true if_false ite_true ite_false true_and and_true false_and and_false and_self or_true true_or or_false false_or not_true_eq_false not_false_eq_true ne_eq forall_const true_implies false_implies implies_true exists_eq_left exists_eq_left' exists_eq exists_const eq_self decide_true decide_false beq_self_eq_true Nat.zero_add Nat.add_zero Nat.sub_zero Nat.sub_self Nat.le_refl Nat.lt_irrefl Nat.zero_le Nat.zero_lt_succ Int.toNat_zero Int.toNat_natCast List.flatMap_cons List.flatMap_nil decide_eq_true_eq decide_eq_false_iff_not ge_iff_le gt_iff_lt Int.not_le Int.not_lt forall_eq forall_eq_or_imp Nat.not_lt_zero SV.int.injEq SV.bool.injEq Bz Int.cast_ofNat_Int BEq.rfl
attribute [go_sem] Au7 At7 Au5
def bs(l:List UInt8):ByteArray:=⟨l.toArray⟩
def Aoq(l:List UInt8):(bs l).size=l.length:=by simp[bs,ByteArray.size]
def Ag1(l:List UInt8)(n:Nat):Uv (bs l) n=((l.getD n 0).toNat:Int):=by simp[bs,Uv]
def Aoo(l:List UInt8)(a b:Nat):(bs l).extract a b=bs ((l.drop a).take (b-a)):=ByteArray.extract_mk l a b
def Aop(l:List UInt8):(bs l).toList=l:=ByteArray.toList_mk l
def Asq(kd:Nat)(op:BinOp)(a b:ByteArray):Fq kd op (.str a) (.str b)=if kd=4 then Ui op a b else none:=q_z
def A2m(a b:ByteArray):Ui .add a b=if a.size+b.size<=9223372036854775807 then some (.str (a++b)) else none:=q_z
def A2n(a b:ByteArray):Ui .eql a b=eqB .eql (a.toList==b.toList):=q_z
def A2o(a b:ByteArray):Ui .neq a b=eqB .neq (a.toList==b.toList):=q_z
def Aon(a b:List UInt8):bs a++bs b=bs (a++b):=by
 apply ByteArray.ext;simp[bs]
def A0s{k:IntKind}{n:Int}{b c:SV}:pok 3 [.int k n,b,c]=True:=by simp[pok,psz]
attribute [go_sem] Aoq Ag1 Aoo Aop Asq A2m A2n A2o Aon A0s
def oP(d:Nat)(x:AOp):Cd:=⟨some d,x,none,0,false,[]⟩
def oI(d i:Nat)(x:AOp):Cd:=⟨some d,x,none,i,false,[]⟩
def oN(x:AOp):Cd:=⟨none,x,none,0,false,[]⟩
def oJ(i:Nat)(x:AOp):Cd:=⟨none,x,none,i,false,[]⟩
def oG(d g:Nat)(b:Bool)(i:Nat)(x:AOp):Cd:=⟨some d,x,some (g,b),i,false,[]⟩
def mT(i:Nat):AOp:=.mv (.t i)
def cI(n:Int):AX:=.c (.int .i64 n)
def Ag(i:Nat):AOp:=.load false 1 (.t i)
def At(i:Nat):AOp:=.nilck (.t i)
def Af(o i:Nat):AOp:=.fad o (.t i)
def cB(b:Bool):AX:=.c (.bool b)
def iS(n:Int):SV:=.int .i64 n
def Bo(l:List Cd):AC:=.reg l false
def Ad(l:List Cd)(c:AC):AC:=.seq (.reg l false) c
def Cs(l:List Cd)(c:AC):AC:=.seq (.reg l true) c
def Ac(d s:Nat):Cd:=⟨some d,.mv (.t s),none,0,false,[]⟩
def Al(a:Nat)(n:Int):AOp:=.bin 0 .eql (.t a) (.c (.int .i64 n))
def Bi(o:BinOp)(a:Nat)(n:Int):AOp:=.bin 0 o (.t a) (.c (.int .i64 n))
def Bu(o:BinOp)(a b:Nat):AOp:=.bin 0 o (.t a) (.t b)
def Bv(a b:Nat):AOp:=.pick (.t a) (.t b) (.c (.bool false))
def Cx(a b:Nat):AOp:=.pick (.t a) (.c (.bool true)) (.t b)
def Bn(n a b:Nat):AOp:=.store n (.t a) (.t b)
def Ao(n a:Nat):AOp:=.load true n (.t a)
def Fe:AOp:=.new [.int .i64 0,.int .i64 0,.int .i64 0,.int .i64 0,.nils]
def Iq(l:List (Nat×Nat×AX)):AOp:=.build [.int .i64 0,.int .i64 0,.int .i64 0,.int .i64 0,.nils] l
def Ak(a:Nat)(x y:AC):AC:=.cond (.t a) x y
def Em(a k:Nat):AC:=.cond (.t a) .skip (.exit k)
def Ap(l:List UInt8):AX:=.c (.str (bs l))
attribute [go_sem] oP oI oN oJ oG mT cI Ag At Af cB iS Bo Ad Cs Ac Al Bi Bu Bv Cx Bn Ao Fe Iq Ak Em Ap
end Go.Proofs.YtgfehkhcmnfpaaaGreatDoor.Abs
