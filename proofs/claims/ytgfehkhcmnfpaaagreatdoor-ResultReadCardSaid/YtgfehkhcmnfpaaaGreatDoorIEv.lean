import Derived.Test.YtgfehkhcmnfpaaaGreatDoorITm
import Derived.Attr
import Derived.Laws.Strings2
set_option linter.all false
set_option maxRecDepth 20000
set_option maxHeartbeats 4000000
namespace Go.Proofs.YtgfehkhcmnfpaaaGreatDoor.Abs
open Go Go.RowKit
def Aq8{hp:List Ob}(b:Bool):Ek hp (.bool b)=some ((.bool b),hp):=q_z
def Aod{hp:List Ob}(b:Bool):El hp (.bool b)=some ((.bool b),hp):=q_z
def Aw1{hp:List Ob}(b:Bool):Ez hp (.bool b)=[]:=q_z
def Aov(b:Bool):SV.closed (.bool b)=true:=q_z
def Aza(b:Bool):SV.ok (.bool b)=true:=q_z
def Aoj(b:Bool):cellsOf (.bool b)=[(.bool b)]:=q_z
def Arc{hp:List Ob}(k:IntKind)(n:Int):Ek hp (.int k n)=some ((.int k n),hp):=q_z
def Aof{hp:List Ob}(k:IntKind)(n:Int):El hp (.int k n)=some ((.int k n),hp):=q_z
def Aw4{hp:List Ob}(k:IntKind)(n:Int):Ez hp (.int k n)=[]:=q_z
def Ao0(k:IntKind)(n:Int):SV.closed (.int k n)=true:=q_z
def Azf(k:IntKind)(n:Int):SV.ok (.int k n)=true:=q_z
def Aoo(k:IntKind)(n:Int):cellsOf (.int k n)=[(.int k n)]:=q_z
def Ara{hp:List Ob}(k:FloatKind)(n:Nat):Ek hp (.float k n)=some ((.float k n),hp):=q_z
def Aoy(k:FloatKind)(n:Nat):SV.closed (.float k n)=true:=q_z
def Azd(k:FloatKind)(n:Nat):SV.ok (.float k n)=true:=q_z
def Aom(k:FloatKind)(n:Nat):cellsOf (.float k n)=[(.float k n)]:=q_z
def Arh{hp:List Ob}(b:ByteArray):Ek hp (.str b)=some ((.str b),hp):=q_z
def Aw6{hp:List Ob}(b:ByteArray):Ez hp (.str b)=[]:=q_z
def Awl(b:ByteArray):Dy (.str b)=[]:=q_z
def Ao4(b:ByteArray):SV.closed (.str b)=true:=q_z
def Azj(b:ByteArray):SV.ok (.str b)=true:=q_z
def Aos(b:ByteArray):cellsOf (.str b)=[(.str b)]:=q_z
def Ard{hp:List Ob} :Ek hp .nilp=some (.nilp,hp):=q_z
def Aw5{hp:List Ob} :Ez hp .nilp=[]:=q_z
def Are{hp:List Ob} :Ek hp .nils=some (.nils,hp):=q_z
def Aog{hp:List Ob} :El hp .nils=some (.nils,hp):=q_z
def Ao2 :SV.closed .nils=true:=q_z
def Azh :SV.ok .nils=true:=q_z
def Aoq :cellsOf .nils=[.nils]:=q_z
def Awh(z:Nat)(l:List SV)(c:Nat):Dy (.dref z l c)=[]:=q_z
def Aow(z:Nat)(l:List SV)(c:Nat):SV.closed (.dref z l c)=true:=q_z
def Azb(z:Nat)(l:List SV)(c:Nat):SV.ok (.dref z l c)=true:=q_z
def Au5(z:Nat)(l:List SV)(c:Nat):Ko (.dref z l c)=false:=q_z
def Aok(z:Nat)(l:List SV)(c:Nat):cellsOf (.dref z l c)=[(.dref z l c)]:=q_z
def Aq9{hp:List Ob}(z:Nat)(l:GV):Ek hp (.dsl z l)=some ((.dsl z l),hp):=q_z
def Aoe{hp:List Ob}(z:Nat)(l:GV):El hp (.dsl z l)=some ((.dsl z l),hp):=q_z
def Aw2{hp:List Ob}(z:Nat)(l:GV):Ez hp (.dsl z l)=[]:=q_z
def Awi(z:Nat)(l:GV):Dy (.dsl z l)=[]:=q_z
def Aox(z:Nat)(l:GV):SV.closed (.dsl z l)=true:=q_z
def Azc(z:Nat)(l:GV):SV.ok (.dsl z l)=true:=q_z
def Aol(z:Nat)(l:GV):cellsOf (.dsl z l)=[(.dsl z l)]:=q_z
def Arb{hp:List Ob}(i c:Nat):Ek hp (.gp i c)=some ((.gp i c),hp):=q_z
def Aw3{hp:List Ob}(i c:Nat):Ez hp (.gp i c)=[]:=q_z
def Aoz(i c:Nat):SV.closed (.gp i c)=true:=q_z
def Aze(i c:Nat):SV.ok (.gp i c)=true:=q_z
def Au6(i c:Nat):Ko (.gp i c)=true:=q_z
def Aon(i c:Nat):cellsOf (.gp i c)=[(.gp i c)]:=q_z
def Ao1(i:Nat):SV.closed (.mp i)=true:=q_z
def Azg(i:Nat):SV.ok (.mp i)=true:=q_z
def Aop(i:Nat):cellsOf (.mp i)=[(.mp i)]:=q_z
def Aq7{hp:List Ob}(l:List SV):Ek hp (.agg true l)=some ((.agg true l),hp):=q_z
def Aw0{hp:List Ob}(l:List SV):Ez hp (.agg true l)=[]:=q_z
def Aoi(b:Bool)(l:List SV):cellsOf (.agg b l)=l:=q_z
def Arg{hp:List Ob}(o g e c:Nat):Ek hp (.ref o g e c)=(match hp[o]? with
  |some ob=>
   if ob.box=true/\ob.gen=g/\e=0 then
    if ob.cl then some (.dref ob.sz (ob.els.getD 0 []) c,fz hp o ob)
    else match Js hp (ob.els.getD 0 []) with
     |some (l',h)=>some (.dref ob.sz l' c,h.set o { ob with els:=[l'],frz:=1,cl:=true })
     |none=>none
   else none
  |none=>none):=q_z
def Arf{hp:List Ob}(o g off len:Nat):Ek hp (.osl o g off len)=(match hp[o]? with
  |some ob=>if ob.box=false/\ob.gen=g then some (.dsl ob.sz ((ob.els.drop off).take len),fz hp o ob) else none
  |none=>none):=q_z
def Aoh{hp:List Ob}(o g off len:Nat):El hp (.osl o g off len)=(match hp[o]? with
  |some ob=>if ob.box=false/\ob.gen=g then some (.dsl ob.sz ((ob.els.drop off).take len),fz hp o ob) else none
  |none=>none):=q_z
def Aq6{hp:List Ob}(l:List SV):Ek hp (.agg false l)=(match Js hp l with
  |some (l',h)=>some (.agg true l',h)
  |none=>none):=q_z
def Awk(o g e c:Nat):Dy (.ref o g e c)=[o]:=q_z
def Awj(o g off len:Nat):Dy (.osl o g off len)=[o]:=q_z
def Au7(o g e c:Nat):Ko (.ref o g e c)=false:=q_z
def Ao3(o g off len:Nat):SV.closed (.osl o g off len)=false:=q_z
def Azi(o g off len:Nat):SV.ok (.osl o g off len)=true:=q_z
def Aor(o g off len:Nat):cellsOf (.osl o g off len)=[(.osl o g off len)]:=q_z
def Aou(b:Bool)(l:List SV):SV.closed (.agg b l)=b:=q_z
def Ay9(b:Bool)(l:List SV):SV.ok (.agg b l)=true:=q_z
def Aru(kd:Nat)(op:BinOp)(k k':IntKind)(a b:Int):Gl kd op (.int k a) (.int k' b)=if kd=0/\k=k' then Zr op k a b else none:=q_z
def Ars(kd:Nat)(op:BinOp)(a b:Bool):Gl kd op (.bool a) (.bool b)=if kd=1 then eqB op (a==b) else none:=q_z
def Arv(kd:Nat)(op:BinOp):Gl kd op .nilp .nilp=if kd=2 then eqB op true else none:=q_z
def An2(n:Nat)(k:IntKind)(i:Int):Dm n (.int k i)=true:=q_z
def An0(n:Nat)(z:Nat)(l:GV):Dm n (.dsl z l)=true:=q_z
def An1(n:Nat)(i c:Nat):Dm n (.gp i c)=true:=q_z
def An3(n:Nat) :Dm n .J=true:=q_z
def An4(n:Nat)(o g e c:Nat):Dm n (.ref o g e c)=decide (o<n):=q_z
attribute [go_sem] An2 An0 An1 An3 An4
def Ayl{k:IntKind}{n:Int}{l:List SV}:Mo (.int k n::l)=false:=q_z
def Ayn{b:ByteArray}{l:List SV}:Mo (.str b::l)=false:=q_z
def Ayk{a b:Nat}{l:List SV}:Mo (.gp a b::l)=false:=q_z
def Ayj{a:Nat}{b:GV}{l:List SV}:Mo (.dsl a b::l)=false:=q_z
def Aym  {l:List SV}:Mo (.nils::l)=false:=q_z
def Az4{l:List SV}:pok 1 l=True:=by simp[pok]
def Az6{l:List SV}:pok 5 l=True:=by simp[pok]
def Apa{kd:Nat}{op:BinOp}{p:Bool}{b:SV}:Pj kd op (.bool p) b=none:=q_z
def Apc{kd:Nat}{op:BinOp}{k:IntKind}{n:Int}{b:SV}:Pj kd op (.int k n) b=none:=q_z
def Ape{kd:Nat}{op:BinOp}{p:ByteArray}{b:SV}:Pj kd op (.str p) b=none:=q_z
def Apb{kd:Nat}{op:BinOp}{i c:Nat}{b:SV}:Pj kd op (.gp i c) b=none:=q_z
def Apd{kd:Nat}{op:BinOp}{a:SV}:Pj kd op a .nilp=none:=by cases a<;>rfl
attribute [go_sem] Apa Apc Ape Apb Apd Az4 Az6 Aq8 Aod Aw1 Aov Aza Aoj Arc Aof Aw4 Ao0 Azf Aoo Ara Aoy Azd Aom Arh Aw6 Awl Ao4 Azj Aos Ard Aw5 Are Aog Ao2 Azh Aoq Awh Aow Azb Au5 Aok Aq9 Aoe Aw2 Awi Aox Azc Aol Arb Aw3 Aoz Aze Au6 Aon Ao1 Azg Aop Aq7 Aw0 Aoi Arg Arf Aoh Aq6 Awk Awj Au7 Ao3 Azi Aor Aou Ay9 Aru Ars Arv Asb A1i A1j At5 A0c A0b Au1 Atj Asy Asg Ato adC Ayl Ayn Ayk Ayj Aym Au9 Au8 beq_true beq_false ev_F rt_n rt_r At4 lq_n lq_e lq_r A0e A0d sq_n sq_e sq_r bk_n bk_e bk_r Aub At3 Atc At1 At2 At7 Aso Ase Ask Ats Atu Asl Asm Ati Aua Atx Aty Asj Atw Aum Aun As5 Atv Asu Asv Ath At9 Ast As7 Atg Atf At0 Atz Auf Atq As3 Atr As4 Asf Asi Ass Ash Asr Atm As1 Aud Ata Att As6 Asd Asq Aue Atb Asn Atn Auc As9 Ate Asx Atk Asz Atl As0 Asc Asp Atd Asw Atp As2 clear Rk Ph Aau En Ev Ep Qe Hx reader Ie Bj Kr Ri Vb Sx Oc Mx Qg loB Ta Js Fg Sy fz Aq5 Aq1 A1x Abd hv_0 Zr Acr eqB Uq Aul Auk Nu e9 List.getD_cons_zero List.getD_cons_succ List.getD_nil List.set_cons_zero List.set_cons_succ List.set_nil List.getElem?_cons_zero List.getElem?_cons_succ List.getElem?_nil List.length_cons List.length_nil List.length_append List.length_set List.map_cons List.map_nil List.all_cons List.all_nil List.nil_append List.cons_append List.append_nil List.replicate_succ List.replicate_zero List.getElem?_append_left List.getElem?_append_right List.drop_succ_cons List.drop_zero List.take_succ_cons List.take_zero List.take_nil List.drop_nil List.mem_cons List.not_mem_nil List.contains_cons List.contains_nil List.getD_eq_getElem?_getD Option.getD_some Option.getD_none Bool.true_and Bool.and_true Bool.false_and Bool.and_false Bool.or_true Bool.true_or Bool.or_false Bool.false_or Bool.not_true Bool.not_false Bool.false_eq_true Bool.true_eq_false if_true if_false ite_true ite_false true_and and_true false_and and_false and_self or_true true_or or_false false_or not_true_eq_false not_false_eq_true ne_eq forall_const true_implies false_implies implies_true exists_eq_left exists_eq_left' exists_eq exists_const eq_self decide_true decide_false beq_self_eq_true Nat.zero_add Nat.add_zero Nat.sub_zero Nat.sub_self Nat.le_refl Nat.lt_irrefl Nat.zero_le Nat.zero_lt_succ Int.toNat_zero Int.toNat_natCast List.flatMap_cons List.flatMap_nil decide_eq_true_eq decide_eq_false_iff_not ge_iff_le gt_iff_lt Int.not_le Int.not_lt forall_eq forall_eq_or_imp Nat.not_lt_zero SV.int.injEq SV.bool.injEq Br Int.cast_ofNat_Int BEq.rfl
attribute [go_sem] At8 As8 At6
def bs(l:List UInt8):ByteArray:=⟨l.toArray⟩
def Aob(l:List UInt8):(bs l).size=l.length:=by simp[bs,ByteArray.size]
def Agg(l:List UInt8)(n:Nat):Vf (bs l) n=((l.getD n 0).toNat:Int):=by simp[bs,Vf]
def An9(l:List UInt8)(a b:Nat):(bs l).extract a b=bs ((l.drop a).take (b-a)):=ByteArray.extract_mk l a b
def Aoa(l:List UInt8):(bs l).toList=l:=ByteArray.toList_mk l
def Arw(kd:Nat)(op:BinOp)(a b:ByteArray):Gl kd op (.str a) (.str b)=if kd=4 then Uw op a b else none:=q_z
def A1o(a b:ByteArray):Uw .add a b=if a.size+b.size<=9223372036854775807 then some (.str (a++b)) else none:=q_z
def A1p(a b:ByteArray):Uw .eql a b=eqB .eql (a.toList==b.toList):=q_z
def A1q(a b:ByteArray):Uw .neq a b=eqB .neq (a.toList==b.toList):=q_z
def An8(a b:List UInt8):bs a++bs b=bs (a++b):=by
 apply ByteArray.ext;simp[bs]
def Az5{k:IntKind}{n:Int}{b c:SV}:pok 3 [.int k n,b,c]=True:=by simp[pok,psz]
attribute [go_sem] Aob Agg An9 Aoa Arw A1o A1p A1q An8 Az5
def oP(d:Nat)(x:AOp):Cl:=⟨some d,x,none,0,false,[]⟩
def oI(d i:Nat)(x:AOp):Cl:=⟨some d,x,none,i,false,[]⟩
def oN(x:AOp):Cl:=⟨none,x,none,0,false,[]⟩
def oJ(i:Nat)(x:AOp):Cl:=⟨none,x,none,i,false,[]⟩
def oG(d g:Nat)(b:Bool)(i:Nat)(x:AOp):Cl:=⟨some d,x,some (g,b),i,false,[]⟩
def mT(i:Nat):AOp:=.mv (.t i)
def cI(n:Int):AX:=.c (.int .i64 n)
def Ah(i:Nat):AOp:=.load false 1 (.t i)
def Ak(i:Nat):AOp:=.nilck (.t i)
def Ae(o i:Nat):AOp:=.fad o (.t i)
def cB(b:Bool):AX:=.c (.bool b)
def iS(n:Int):SV:=.int .i64 n
def Bg(l:List Cl):AC:=.reg l false
def Ab(l:List Cl)(c:AC):AC:=.seq (.reg l false) c
def Cx(l:List Cl)(c:AC):AC:=.seq (.reg l true) c
def Aa(d s:Nat):Cl:=⟨some d,.mv (.t s),none,0,false,[]⟩
def An(a:Nat)(n:Int):AOp:=.bin 0 .eql (.t a) (.c (.int .i64 n))
def Ay(o:BinOp)(a:Nat)(n:Int):AOp:=.bin 0 o (.t a) (.c (.int .i64 n))
def Ca(o:BinOp)(a b:Nat):AOp:=.bin 0 o (.t a) (.t b)
def Cf(a b:Nat):AOp:=.pick (.t a) (.t b) (.c (.bool false))
def Dk(a b:Nat):AOp:=.pick (.t a) (.c (.bool true)) (.t b)
def Ax(n a b:Nat):AOp:=.store n (.t a) (.t b)
def Aq(n a:Nat):AOp:=.load true n (.t a)
def Fp:AOp:=.new [.int .i64 0,.int .i64 0,.int .i64 0,.int .i64 0,.nils]
def Gy(l:List (Nat×Nat×AX)):AOp:=.build [.int .i64 0,.int .i64 0,.int .i64 0,.int .i64 0,.nils] l
def Aj(a:Nat)(x y:AC):AC:=.cond (.t a) x y
def Et(a k:Nat):AC:=.cond (.t a) .skip (.exit k)
def At(l:List UInt8):AX:=.c (.str (bs l))
attribute [go_sem] oP oI oN oJ oG mT cI Ah Ak Ae cB iS Bg Ab Cx Aa An Ay Ca Cf Dk Ax Aq Fp Gy Aj Et At
end Go.Proofs.YtgfehkhcmnfpaaaGreatDoor.Abs
