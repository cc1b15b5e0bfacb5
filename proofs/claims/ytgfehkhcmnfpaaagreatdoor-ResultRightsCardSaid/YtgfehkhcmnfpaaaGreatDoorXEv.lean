import Derived.Test.YtgfehkhcmnfpaaaGreatDoorXTm
import Derived.Attr
import Derived.Laws.Strings2
set_option linter.all false
set_option maxRecDepth 20000
set_option maxHeartbeats 4000000
namespace Go.Proofs.YtgfehkhcmnfpaaaGreatDoor.Abs
open Go Go.RowKit
def Alv{hp:List Ob}(b:Bool):Cz hp (.bool b)=some ((.bool b),hp):=q_z
def Aje{hp:List Ob}(b:Bool):Dc hp (.bool b)=some ((.bool b),hp):=q_z
def Arc{hp:List Ob}(b:Bool):Do hp (.bool b)=[]:=q_z
def Ajw(b:Bool):SV.closed (.bool b)=true:=q_z
def As9(b:Bool):SV.ok (.bool b)=true:=q_z
def Ajk(b:Bool):cellsOf (.bool b)=[(.bool b)]:=q_z
def Alz{hp:List Ob}(k:IntKind)(n:Int):Cz hp (.int k n)=some ((.int k n),hp):=q_z
def Ajg{hp:List Ob}(k:IntKind)(n:Int):Dc hp (.int k n)=some ((.int k n),hp):=q_z
def Arf{hp:List Ob}(k:IntKind)(n:Int):Do hp (.int k n)=[]:=q_z
def Aj1(k:IntKind)(n:Int):SV.closed (.int k n)=true:=q_z
def Ate(k:IntKind)(n:Int):SV.ok (.int k n)=true:=q_z
def Ajp(k:IntKind)(n:Int):cellsOf (.int k n)=[(.int k n)]:=q_z
def Alx{hp:List Ob}(k:FloatKind)(n:Nat):Cz hp (.float k n)=some ((.float k n),hp):=q_z
def Ajz(k:FloatKind)(n:Nat):SV.closed (.float k n)=true:=q_z
def Atc(k:FloatKind)(n:Nat):SV.ok (.float k n)=true:=q_z
def Ajn(k:FloatKind)(n:Nat):cellsOf (.float k n)=[(.float k n)]:=q_z
def Al4{hp:List Ob}(b:ByteArray):Cz hp (.str b)=some ((.str b),hp):=q_z
def Arh{hp:List Ob}(b:ByteArray):Do hp (.str b)=[]:=q_z
def Aqz(b:ByteArray):Ct (.str b)=[]:=q_z
def Aj5(b:ByteArray):SV.closed (.str b)=true:=q_z
def Ati(b:ByteArray):SV.ok (.str b)=true:=q_z
def Ajt(b:ByteArray):cellsOf (.str b)=[(.str b)]:=q_z
def Al0{hp:List Ob} :Cz hp .nilp=some (.nilp,hp):=q_z
def Arg{hp:List Ob} :Do hp .nilp=[]:=q_z
def Al1{hp:List Ob} :Cz hp .nils=some (.nils,hp):=q_z
def Ajh{hp:List Ob} :Dc hp .nils=some (.nils,hp):=q_z
def Aj3 :SV.closed .nils=true:=q_z
def Atg :SV.ok .nils=true:=q_z
def Ajr :cellsOf .nils=[.nils]:=q_z
def Aqv(z:Nat)(l:List SV)(c:Nat):Ct (.dref z l c)=[]:=q_z
def Ajx(z:Nat)(l:List SV)(c:Nat):SV.closed (.dref z l c)=true:=q_z
def Ata(z:Nat)(l:List SV)(c:Nat):SV.ok (.dref z l c)=true:=q_z
def Apo(z:Nat)(l:List SV)(c:Nat):Is (.dref z l c)=false:=q_z
def Ajl(z:Nat)(l:List SV)(c:Nat):cellsOf (.dref z l c)=[(.dref z l c)]:=q_z
def Alw{hp:List Ob}(z:Nat)(l:GV):Cz hp (.dsl z l)=some ((.dsl z l),hp):=q_z
def Ajf{hp:List Ob}(z:Nat)(l:GV):Dc hp (.dsl z l)=some ((.dsl z l),hp):=q_z
def Ard{hp:List Ob}(z:Nat)(l:GV):Do hp (.dsl z l)=[]:=q_z
def Aqw(z:Nat)(l:GV):Ct (.dsl z l)=[]:=q_z
def Ajy(z:Nat)(l:GV):SV.closed (.dsl z l)=true:=q_z
def Atb(z:Nat)(l:GV):SV.ok (.dsl z l)=true:=q_z
def Ajm(z:Nat)(l:GV):cellsOf (.dsl z l)=[(.dsl z l)]:=q_z
def Aly{hp:List Ob}(i c:Nat):Cz hp (.gp i c)=some ((.gp i c),hp):=q_z
def Are{hp:List Ob}(i c:Nat):Do hp (.gp i c)=[]:=q_z
def Aj0(i c:Nat):SV.closed (.gp i c)=true:=q_z
def Atd(i c:Nat):SV.ok (.gp i c)=true:=q_z
def App(i c:Nat):Is (.gp i c)=true:=q_z
def Ajo(i c:Nat):cellsOf (.gp i c)=[(.gp i c)]:=q_z
def Aj2(i:Nat):SV.closed (.mp i)=true:=q_z
def Atf(i:Nat):SV.ok (.mp i)=true:=q_z
def Ajq(i:Nat):cellsOf (.mp i)=[(.mp i)]:=q_z
def Alu{hp:List Ob}(l:List SV):Cz hp (.agg true l)=some ((.agg true l),hp):=q_z
def Arb{hp:List Ob}(l:List SV):Do hp (.agg true l)=[]:=q_z
def Ajj(b:Bool)(l:List SV):cellsOf (.agg b l)=l:=q_z
def Al3{hp:List Ob}(o g e c:Nat):Cz hp (.ref o g e c)=(match hp[o]? with
  |some ob=>
   if ob.box=true/\ob.gen=g/\e=0 then
    if ob.cl then some (.dref ob.sz (ob.els.getD 0 []) c,fz hp o ob)
    else match Hy hp (ob.els.getD 0 []) with
     |some (l',h)=>some (.dref ob.sz l' c,h.set o { ob with els:=[l'],frz:=1,cl:=true })
     |none=>none
   else none
  |none=>none):=q_z
def Al2{hp:List Ob}(o g off len:Nat):Cz hp (.osl o g off len)=(match hp[o]? with
  |some ob=>if ob.box=false/\ob.gen=g then some (.dsl ob.sz ((ob.els.drop off).take len),fz hp o ob) else none
  |none=>none):=q_z
def Aji{hp:List Ob}(o g off len:Nat):Dc hp (.osl o g off len)=(match hp[o]? with
  |some ob=>if ob.box=false/\ob.gen=g then some (.dsl ob.sz ((ob.els.drop off).take len),fz hp o ob) else none
  |none=>none):=q_z
def Alt{hp:List Ob}(l:List SV):Cz hp (.agg false l)=(match Hy hp l with
  |some (l',h)=>some (.agg true l',h)
  |none=>none):=q_z
def Aqy(o g e c:Nat):Ct (.ref o g e c)=[o]:=q_z
def Aqx(o g off len:Nat):Ct (.osl o g off len)=[o]:=q_z
def Apq(o g e c:Nat):Is (.ref o g e c)=false:=q_z
def Aj4(o g off len:Nat):SV.closed (.osl o g off len)=false:=q_z
def Ath(o g off len:Nat):SV.ok (.osl o g off len)=true:=q_z
def Ajs(o g off len:Nat):cellsOf (.osl o g off len)=[(.osl o g off len)]:=q_z
def Ajv(b:Bool)(l:List SV):SV.closed (.agg b l)=b:=q_z
def As8(b:Bool)(l:List SV):SV.ok (.agg b l)=true:=q_z
def Amc(kd:Nat)(op:BinOp)(k k':IntKind)(a b:Int):Fb kd op (.int k a) (.int k' b)=if kd=0/\k=k' then Vz op k a b else none:=q_z
def Amd(kd:Nat)(op:BinOp):Fb kd op .nilp .nilp=if kd=2 then eqB op true else none:=q_z
def Ai4(n:Nat)(k:IntKind)(i:Int):Dt n (.int k i)=true:=q_z
def Ai2(n:Nat)(z:Nat)(l:GV):Dt n (.dsl z l)=true:=q_z
def Ai3(n:Nat)(i c:Nat):Dt n (.gp i c)=true:=q_z
def Ai5(n:Nat) :Dt n .J=true:=q_z
def Ai6(n:Nat)(o g e c:Nat):Dt n (.ref o g e c)=decide (o<n):=q_z
attribute [go_sem] Ai4 Ai2 Ai3 Ai5 Ai6
def Asn{k:IntKind}{n:Int}{l:List SV}:Km (.int k n::l)=false:=q_z
def Asp{b:ByteArray}{l:List SV}:Km (.str b::l)=false:=q_z
def Asm{a b:Nat}{l:List SV}:Km (.gp a b::l)=false:=q_z
def Asl{a:Nat}{b:GV}{l:List SV}:Km (.dsl a b::l)=false:=q_z
def Aso  {l:List SV}:Km (.nils::l)=false:=q_z
def Atz{l:List SV}:pok 1 l=True:=by simp[pok]
def At1{l:List SV}:pok 5 l=True:=by simp[pok]
def Akc{kd:Nat}{op:BinOp}{k:IntKind}{n:Int}{b:SV}:Nl kd op (.int k n) b=none:=q_z
def Ake{kd:Nat}{op:BinOp}{p:ByteArray}{b:SV}:Nl kd op (.str p) b=none:=q_z
def Akb{kd:Nat}{op:BinOp}{i c:Nat}{b:SV}:Nl kd op (.gp i c) b=none:=q_z
def Akd{kd:Nat}{op:BinOp}{a:SV}:Nl kd op a .nilp=none:=by cases a<;>rfl
attribute [go_sem] Akc Ake Akb Akd Atz At1 Alv Aje Arc Ajw As9 Ajk Alz Ajg Arf Aj1 Ate Ajp Alx Ajz Atc Ajn Al4 Arh Aqz Aj5 Ati Ajt Al0 Arg Al1 Ajh Aj3 Atg Ajr Aqv Ajx Ata Apo Ajl Alw Ajf Ard Aqw Ajy Atb Ajm Aly Are Aj0 Atd App Ajo Aj2 Atf Ajq Alu Arb Ajj Al3 Al2 Aji Alt Aqy Aqx Apq Aj4 Ath Ajs Ajv As8 Amc Amd Amu Aut Auu Aoq At6 At5 Apj An4 Ani Amz An9 adC Asn Asp Asm Asl Aso Aps Apr beq_true beq_false ev_F rt_n rt_r Aop lq_n lq_e lq_r At8 At7 sq_n sq_e sq_r bk_n bk_e bk_r Aow Aoo Anw Aom Aon Aos Am7 Amx Am3 Aod Aof Am4 Am5 An3 Aov Aoi Aoj Am2 Aoh Ao7 Ao8 Anp Aog Ane Anf An2 Aou Anc Anr An1 An0 Aol Aok Ao0 Aob Ann Aoc Ano Amy Am1 Anb Am0 Ana An7 Anl Aoy Anu Aoe Anq Amw Am9 Aoz Anv Am6 An8 Aox Ant Anz Anh An5 Anj An6 Ank Amv Am8 Anx Ang Aoa Anm clear Om Mk Yj Dg Dm Di Ng Gg reader Gm Ba Iv Ol Rn Pt Lq Kq Nj loB Pw Hy Dz Pu fz Als Alp Au8 Yz hv_0 Vz l7 eqB Re Ao6 Ao5 Ll Wh List.getD_cons_zero List.getD_cons_succ List.getD_nil List.set_cons_zero List.set_cons_succ List.set_nil List.getElem?_cons_zero List.getElem?_cons_succ List.getElem?_nil List.length_cons List.length_nil List.length_append List.length_set List.map_cons List.map_nil List.all_cons List.all_nil List.nil_append List.cons_append List.append_nil List.replicate_succ List.replicate_zero List.getElem?_append_left List.getElem?_append_right List.drop_succ_cons List.drop_zero List.take_succ_cons List.take_zero List.take_nil List.drop_nil List.mem_cons List.not_mem_nil List.contains_cons List.contains_nil List.getD_eq_getElem?_getD Option.getD_some Option.getD_none Bool.true_and Bool.and_true Bool.false_and Bool.and_false Bool.or_true Bool.true_or Bool.or_false Bool.false_or Bool.not_true Bool.not_false Bool.false_eq_true Bool.true_eq_false if_true if_false ite_true ite_false true_and and_true false_and and_false and_self or_true true_or or_false false_or not_true_eq_false not_false_eq_true ne_eq forall_const true_implies false_implies implies_true exists_eq_left exists_eq_left' exists_eq exists_const eq_self decide_true decide_false beq_self_eq_true Nat.zero_add Nat.add_zero Nat.sub_zero Nat.sub_self Nat.le_refl Nat.lt_irrefl Nat.zero_le Nat.zero_lt_succ Int.toNat_zero Int.toNat_natCast List.flatMap_cons List.flatMap_nil decide_eq_true_eq decide_eq_false_iff_not ge_iff_le gt_iff_lt Int.not_le Int.not_lt forall_eq forall_eq_or_imp Nat.not_lt_zero SV.int.injEq SV.bool.injEq Cg Int.cast_ofNat_Int BEq.rfl
attribute [go_sem] Aot Ans Aor
def bs(l:List UInt8):ByteArray:=⟨l.toArray⟩
def Ajc(l:List UInt8):(bs l).size=l.length:=by simp[bs,ByteArray.size]
def Ack(l:List UInt8)(n:Nat):Rr (bs l) n=((l.getD n 0).toNat:Int):=by simp[bs,Rr]
def Aja(l:List UInt8)(a b:Nat):(bs l).extract a b=bs ((l.drop a).take (b-a)):=ByteArray.extract_mk l a b
def Ajb(l:List UInt8):(bs l).toList=l:=ByteArray.toList_mk l
def Ame(kd:Nat)(op:BinOp)(a b:ByteArray):Fb kd op (.str a) (.str b)=if kd=4 then Rj op a b else none:=q_z
def Auz(a b:ByteArray):Rj .add a b=if a.size+b.size<=9223372036854775807 then some (.str (a++b)) else none:=q_z
def Au0(a b:ByteArray):Rj .eql a b=eqB .eql (a.toList==b.toList):=q_z
def Au1(a b:ByteArray):Rj .neq a b=eqB .neq (a.toList==b.toList):=q_z
def Ai9(a b:List UInt8):bs a++bs b=bs (a++b):=by
 apply ByteArray.ext;simp[bs]
def At0{k:IntKind}{n:Int}{b c:SV}:pok 3 [.int k n,b,c]=True:=by simp[pok,psz]
attribute [go_sem] Ajc Ack Aja Ajb Ame Auz Au0 Au1 Ai9 At0
def oP(d:Nat)(x:AOp):Br:=⟨some d,x,none,0,false,[]⟩
def oI(d i:Nat)(x:AOp):Br:=⟨some d,x,none,i,false,[]⟩
def oN(x:AOp):Br:=⟨none,x,none,0,false,[]⟩
def oJ(i:Nat)(x:AOp):Br:=⟨none,x,none,i,false,[]⟩
def oG(d g:Nat)(b:Bool)(i:Nat)(x:AOp):Br:=⟨some d,x,some (g,b),i,false,[]⟩
def mT(i:Nat):AOp:=.mv (.t i)
def cI(n:Int):AX:=.c (.int .i64 n)
def Af(i:Nat):AOp:=.load false 1 (.t i)
def Al(i:Nat):AOp:=.nilck (.t i)
def Ac(o i:Nat):AOp:=.fad o (.t i)
def cB(b:Bool):AX:=.c (.bool b)
def iS(n:Int):SV:=.int .i64 n
def Bj(l:List Br):AC:=.reg l false
def Ab(l:List Br)(c:AC):AC:=.seq (.reg l false) c
def Cl(l:List Br)(c:AC):AC:=.seq (.reg l true) c
def Aa(d s:Nat):Br:=⟨some d,.mv (.t s),none,0,false,[]⟩
def As(a:Nat)(n:Int):AOp:=.bin 0 .eql (.t a) (.c (.int .i64 n))
def Bg(o:BinOp)(a:Nat)(n:Int):AOp:=.bin 0 o (.t a) (.c (.int .i64 n))
def Ch(o:BinOp)(a b:Nat):AOp:=.bin 0 o (.t a) (.t b)
def Cf(a b:Nat):AOp:=.pick (.t a) (.t b) (.c (.bool false))
def Db(a b:Nat):AOp:=.pick (.t a) (.c (.bool true)) (.t b)
def Bd(n a b:Nat):AOp:=.store n (.t a) (.t b)
def Am(n a:Nat):AOp:=.load true n (.t a)
def Ej:AOp:=.new [.int .i64 0,.int .i64 0,.int .i64 0,.int .i64 0,.nils]
def Hl(l:List (Nat×Nat×AX)):AOp:=.build [.int .i64 0,.int .i64 0,.int .i64 0,.int .i64 0,.nils] l
def Ag(a:Nat)(x y:AC):AC:=.cond (.t a) x y
def Ez(a k:Nat):AC:=.cond (.t a) .skip (.exit k)
def Be(l:List UInt8):AX:=.c (.str (bs l))
attribute [go_sem] oP oI oN oJ oG mT cI Af Al Ac cB iS Bj Ab Cl Aa As Bg Ch Cf Db Bd Am Ej Hl Ag Ez Be
end Go.Proofs.YtgfehkhcmnfpaaaGreatDoor.Abs
