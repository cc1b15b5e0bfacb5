import Derived.Test.YtgdkddjdhijfnaaGreatDoorXTm
import Derived.Attr
import Derived.Laws.Strings2
set_option linter.all false
set_option maxRecDepth 20000
set_option maxHeartbeats 4000000
namespace Go.Proofs.YtgdkddjdhijfnaaGreatDoor.Abs
open Go Go.RowKit
def A2k{hp:List Ob}(b:Bool):De hp (.bool b)=some ((.bool b),hp):=q_z
def Axn{hp:List Ob}(b:Bool):Di hp (.bool b)=some ((.bool b),hp):=q_z
def Bba{hp:List Ob}(b:Bool):Dy hp (.bool b)=[]:=q_z
def Ax6(b:Bool):SV.closed (.bool b)=true:=q_z
def Bd3(b:Bool):SV.ok (.bool b)=true:=q_z
def Axu(b:Bool):cellsOf (.bool b)=[(.bool b)]:=q_z
def A2p{hp:List Ob}(k:IntKind)(n:Int):De hp (.int k n)=some ((.int k n),hp):=q_z
def Axp{hp:List Ob}(k:IntKind)(n:Int):Di hp (.int k n)=some ((.int k n),hp):=q_z
def Bbe{hp:List Ob}(k:IntKind)(n:Int):Dy hp (.int k n)=[]:=q_z
def Aya(k:IntKind)(n:Int):SV.closed (.int k n)=true:=q_z
def Bd7(k:IntKind)(n:Int):SV.ok (.int k n)=true:=q_z
def Axy(k:IntKind)(n:Int):cellsOf (.int k n)=[(.int k n)]:=q_z
def A2n{hp:List Ob}(k:FloatKind)(n:Nat):De hp (.float k n)=some ((.float k n),hp):=q_z
def A2u{hp:List Ob}(b:ByteArray):De hp (.str b)=some ((.str b),hp):=q_z
def Axs{hp:List Ob}(b:ByteArray):Di hp (.str b)=some ((.str b),hp):=q_z
def Aye(b:ByteArray):SV.closed (.str b)=true:=q_z
def Bed(b:ByteArray):SV.ok (.str b)=true:=q_z
def Ax3(b:ByteArray):cellsOf (.str b)=[(.str b)]:=q_z
def A2q{hp:List Ob} :De hp .nilp=some (.nilp,hp):=q_z
def Bbf{hp:List Ob} :Dy hp .nilp=[]:=q_z
def Bd9 :SV.ok .nilp=true:=q_z
def Ax0 :cellsOf .nilp=[.nilp]:=q_z
def A2r{hp:List Ob} :De hp .nils=some (.nils,hp):=q_z
def Axq{hp:List Ob} :Di hp .nils=some (.nils,hp):=q_z
def Ayc :SV.closed .nils=true:=q_z
def Bea :SV.ok .nils=true:=q_z
def Ax1 :cellsOf .nils=[.nils]:=q_z
def A2l{hp:List Ob}(z:Nat)(l:List SV)(c:Nat):De hp (.dref z l c)=some ((.dref z l c),hp):=q_z
def Bbb{hp:List Ob}(z:Nat)(l:List SV)(c:Nat):Dy hp (.dref z l c)=[]:=q_z
def Bau(z:Nat)(l:List SV)(c:Nat):Cw (.dref z l c)=[]:=q_z
def Ax7(z:Nat)(l:List SV)(c:Nat):SV.closed (.dref z l c)=true:=q_z
def Bd4(z:Nat)(l:List SV)(c:Nat):SV.ok (.dref z l c)=true:=q_z
def A8l(z:Nat)(l:List SV)(c:Nat):Lj (.dref z l c)=false:=q_z
def Axv(z:Nat)(l:List SV)(c:Nat):cellsOf (.dref z l c)=[(.dref z l c)]:=q_z
def A2m{hp:List Ob}(z:Nat)(l:GV):De hp (.dsl z l)=some ((.dsl z l),hp):=q_z
def Axo{hp:List Ob}(z:Nat)(l:GV):Di hp (.dsl z l)=some ((.dsl z l),hp):=q_z
def Bbc{hp:List Ob}(z:Nat)(l:GV):Dy hp (.dsl z l)=[]:=q_z
def Bav(z:Nat)(l:GV):Cw (.dsl z l)=[]:=q_z
def Ax8(z:Nat)(l:GV):SV.closed (.dsl z l)=true:=q_z
def Bd5(z:Nat)(l:GV):SV.ok (.dsl z l)=true:=q_z
def Axw(z:Nat)(l:GV):cellsOf (.dsl z l)=[(.dsl z l)]:=q_z
def A2o{hp:List Ob}(i c:Nat):De hp (.gp i c)=some ((.gp i c),hp):=q_z
def Bbd{hp:List Ob}(i c:Nat):Dy hp (.gp i c)=[]:=q_z
def Ax9(i c:Nat):SV.closed (.gp i c)=true:=q_z
def Bd6(i c:Nat):SV.ok (.gp i c)=true:=q_z
def A8m(i c:Nat):Lj (.gp i c)=true:=q_z
def Axx(i c:Nat):cellsOf (.gp i c)=[(.gp i c)]:=q_z
def Ayb(i:Nat):SV.closed (.mp i)=true:=q_z
def Bd8(i:Nat):SV.ok (.mp i)=true:=q_z
def Axz(i:Nat):cellsOf (.mp i)=[(.mp i)]:=q_z
def A2j{hp:List Ob}(l:List SV):De hp (.agg true l)=some ((.agg true l),hp):=q_z
def Ba9{hp:List Ob}(l:List SV):Dy hp (.agg true l)=[]:=q_z
def Axt(b:Bool)(l:List SV):cellsOf (.agg b l)=l:=q_z
def A2t{hp:List Ob}(o g e c:Nat):De hp (.ref o g e c)=(match hp[o]? with
  |some ob=>
   if ob.box=true/\ob.gen=g/\e=0 then
    if ob.cl then some (.dref ob.sz (ob.els.getD 0 []) c,fz hp o ob)
    else match Jx hp (ob.els.getD 0 []) with
     |some (l',h)=>some (.dref ob.sz l' c,h.set o { ob with els:=[l'],frz:=1,cl:=true })
     |none=>none
   else none
  |none=>none):=q_z
def A2s{hp:List Ob}(o g off len:Nat):De hp (.osl o g off len)=(match hp[o]? with
  |some ob=>if ob.box=false/\ob.gen=g then some (.dsl ob.sz ((ob.els.drop off).take len),fz hp o ob) else none
  |none=>none):=q_z
def Axr{hp:List Ob}(o g off len:Nat):Di hp (.osl o g off len)=(match hp[o]? with
  |some ob=>if ob.box=false/\ob.gen=g then some (.dsl ob.sz ((ob.els.drop off).take len),fz hp o ob) else none
  |none=>none):=q_z
def A2i{hp:List Ob}(l:List SV):De hp (.agg false l)=(match Jx hp l with
  |some (l',h)=>some (.agg true l',h)
  |none=>none):=q_z
def Bbg{hp:List Ob}(o g off len:Nat):Dy hp (.osl o g off len)=[o]:=q_z
def Bax(o g e c:Nat):Cw (.ref o g e c)=[o]:=q_z
def Baw(o g off len:Nat):Cw (.osl o g off len)=[o]:=q_z
def A8n(o g e c:Nat):Lj (.ref o g e c)=false:=q_z
def Ayd(o g off len:Nat):SV.closed (.osl o g off len)=false:=q_z
def Beb(o g off len:Nat):SV.ok (.osl o g off len)=true:=q_z
def Ax2(o g off len:Nat):cellsOf (.osl o g off len)=[(.osl o g off len)]:=q_z
def Ax5(b:Bool)(l:List SV):SV.closed (.agg b l)=b:=q_z
def Bd2(b:Bool)(l:List SV):SV.ok (.agg b l)=true:=q_z
def A3g(kd:Nat)(op:BinOp)(k k':IntKind)(a b:Int):Fe kd op (.int k a) (.int k' b)=if kd=0/\k=k' then Abi op k a b else none:=q_z
def A3b(kd:Nat)(op:BinOp)(a b:Bool):Fe kd op (.bool a) (.bool b)=if kd=1 then eqB op (a==b) else none:=q_z
def A3d(kd:Nat)(op:BinOp)(k k':FloatKind)(a b:Nat):Fe kd op (.float k a) (.float k' b)=if kd=3/\k=k' then Adc op k a b else none:=q_z
def A3c(kd:Nat)(op:BinOp)(z:Nat)(l:List SV)(c:Nat):Fe kd op (.dref z l c) .nilp=if kd=2 then eqB op false else none:=q_z
def A3e(kd:Nat)(op:BinOp)(i c:Nat):Fe kd op (.gp i c) .nilp=if kd=2 then eqB op false else none:=q_z
def A3i(kd:Nat)(op:BinOp):Fe kd op .nilp .nilp=if kd=2 then eqB op true else none:=q_z
def Aw0(n:Nat)(k:IntKind)(i:Int):Cx n (.int k i)=true:=q_z
def Awy(n:Nat)(z:Nat)(l:GV):Cx n (.dsl z l)=true:=q_z
def Awz(n:Nat)(i c:Nat):Cx n (.gp i c)=true:=q_z
def Aw1(n:Nat) :Cx n .J=true:=q_z
def Aw2(n:Nat)(o g e c:Nat):Cx n (.ref o g e c)=decide (o<n):=q_z
attribute [go_sem] Aw0 Awy Awz Aw1 Aw2
def Bc1{k:IntKind}{n:Int}{l:List SV}:Kj (.int k n::l)=false:=q_z
def Bcy{b:Bool}{l:List SV}:Kj (.bool b::l)=false:=q_z
def Bc3{b:ByteArray}{l:List SV}:Kj (.str b::l)=false:=q_z
def Bc0{a b:Nat}{l:List SV}:Kj (.gp a b::l)=false:=q_z
def Bcz{a:Nat}{b:GV}{l:List SV}:Kj (.dsl a b::l)=false:=q_z
def Bc2  {l:List SV}:Kj (.nils::l)=false:=q_z
def Bfw{l:List SV}:pok 1 l=True:=by simp[pok]
def Bfy{l:List SV}:pok 5 l=True:=by simp[pok]
def Ayr{kd:Nat}{op:BinOp}{p:Bool}{b:SV}:Kq kd op (.bool p) b=none:=q_z
def Ayu{kd:Nat}{op:BinOp}{k:IntKind}{n:Int}{b:SV}:Kq kd op (.int k n) b=none:=q_z
def Ays{kd:Nat}{op:BinOp}{k:FloatKind}{n:Nat}{b:SV}:Kq kd op (.float k n) b=none:=q_z
def Ayy{kd:Nat}{op:BinOp}{p:ByteArray}{b:SV}:Kq kd op (.str p) b=none:=q_z
def Ayw{kd:Nat}{op:BinOp}  {b:SV}:Kq kd op .nilp b=none:=q_z
def Ayt{kd:Nat}{op:BinOp}{i c:Nat}{b:SV}:Kq kd op (.gp i c) b=none:=q_z
def Ayx{kd:Nat}{op:BinOp}{a:SV}:Kq kd op a .nilp=none:=by cases a<;>rfl
def cmp_eq{z c z2 c2:Nat}{l l2:List SV}(h:psz l=true)(h2:psz l2=true):Kq 2 .eql (.dref z l c) (.dref z2 l2 c2)=some (.bool true,.bool false):=by simp[Kq,h,h2]
def Ayv{z c z2 c2:Nat}{l l2:List SV}(h:psz l=true)(h2:psz l2=true):Kq 2 .neq (.dref z l c) (.dref z2 l2 c2)=some (.bool false,.bool true):=by simp[Kq,h,h2]
attribute [go_sem] Ayr Ayu Ays Ayy Ayw Ayt Ayx cmp_eq Ayv Bfw Bfy A2k Axn Bba Ax6 Bd3 Axu A2p Axp Bbe Aya Bd7 Axy A2n A2u Axs Aye Bed Ax3 A2q Bbf Bd9 Ax0 A2r Axq Ayc Bea Ax1 A2l Bbb Bau Ax7 Bd4 A8l Axv A2m Axo Bbc Bav Ax8 Bd5 Axw A2o Bbd Ax9 Bd6 A8m Axx Ayb Bd8 Axz A2j Ba9 Axt A2t A2s Axr A2i Bbg Bax Baw A8n Ayd Beb Ax2 Ax5 Bd2 A3g A3b A3d A3c A3e A3i A3w Bha Bhb A6u Bga Bf9 A8h A5v A4y A6k A6f A4e A6b A5x adC Bc1 Bcy Bc3 Bc0 Bcz Bc2 A8q A8o A8p beq_true beq_false ev_F rt_r A6t lq_n lq_e lq_r Bgc Bgb sq_n sq_e sq_r bk_n bk_e bk_r A7a A6s A5o A6q A6r A6w A4m A4c A4i A6g A6i A4j A4k A5u A6z A6m A6n A4h A6l A7y A7z A5h A6j A4t A4u A5t A6y A4s A5j A5s A5r A6p A6o A7e A6d A5f A6e A5g A4d A4p A4g A4r A4f A4q A5z A5b A7c A5m A6h A5i A4b A4o A7d A5n A4l A4v A6a A7b A5l A5q A4x A5w A4z A5y A5a A3z A4n A5p A4w A6c A5d clear Vi Rq Aer Dp Dz Dq Tf Hq reader Hz Aw Lp Vf Zc Xg Qn Pd Tj loB Xo Jx Em Xk fz A2g A2c Bh5 Rp hv_0 Abi Adc eqB Yp A7x A7w Km Uu List.getD_cons_zero List.getD_cons_succ List.getD_nil List.set_cons_zero List.set_cons_succ List.set_nil List.getElem?_cons_zero List.getElem?_cons_succ List.getElem?_nil List.length_cons List.length_nil List.length_append List.length_set List.map_cons List.map_nil List.all_cons List.all_nil List.nil_append List.cons_append List.append_nil List.replicate_succ List.replicate_zero List.getElem?_append_left List.getElem?_append_right List.drop_succ_cons List.drop_zero List.take_succ_cons List.take_zero List.take_nil List.drop_nil List.mem_cons List.not_mem_nil List.contains_cons List.contains_nil List.getD_eq_getElem?_getD Option.getD_some Option.getD_none Bool.true_and Bool.and_true Bool.false_and Bool.and_false Bool.or_true Bool.true_or Bool.or_false Bool.false_or Bool.not_true Bool.not_false Bool.false_eq_true Bool.true_eq_false if_true if_false ite_true ite_false true_and and_true false_and and_false and_self or_true true_or or_false false_or not_true_eq_false not_false_eq_true ne_eq forall_const true_implies false_implies implies_true exists_eq_left exists_eq_left' exists_eq exists_const eq_self decide_true decide_false beq_self_eq_true Nat.zero_add Nat.add_zero Nat.sub_zero Nat.sub_self Nat.le_refl Nat.lt_irrefl Nat.zero_le Nat.zero_lt_succ Int.toNat_zero Int.toNat_natCast List.flatMap_cons List.flatMap_nil decide_eq_true_eq decide_eq_false_iff_not ge_iff_le gt_iff_lt Int.not_le Int.not_lt forall_eq forall_eq_or_imp Nat.not_lt_zero SV.int.injEq SV.bool.injEq Ch Int.cast_ofNat_Int BEq.rfl
def A3h(kd:Nat)(op:BinOp)(z:Nat)(l:List SV)(c:Nat):Fe kd op .nilp (.dref z l c)=if kd=2 then eqB op false else none:=q_z
attribute [go_sem] A6x A5k A4a A5c A5e A3h A3x Bhd A6v
def bs(l:List UInt8):ByteArray:=⟨l.toArray⟩
def Axk(l:List UInt8):(bs l).size=l.length:=by simp[bs,ByteArray.size]
def Amm(l:List UInt8)(n:Nat):Zj (bs l) n=((l.getD n 0).toNat:Int):=by simp[bs,Zj]
def Axi(l:List UInt8)(a b:Nat):(bs l).extract a b=bs ((l.drop a).take (b-a)):=ByteArray.extract_mk l a b
def Axj(l:List UInt8):(bs l).toList=l:=ByteArray.toList_mk l
def A3j(kd:Nat)(op:BinOp)(a b:ByteArray):Fe kd op (.str a) (.str b)=if kd=4 then eqB op (a.toList==b.toList) else none:=q_z
def Bfx{k:IntKind}{n:Int}{b c:SV}:pok 3 [.int k n,b,c]=True:=by simp[pok,psz]
attribute [go_sem] Axk Amm Axi Axj A3j Bfx
def oP(d:Nat)(x:AOp):Bj:=⟨some d,x,none,0,false,[]⟩
def oI(d i:Nat)(x:AOp):Bj:=⟨some d,x,none,i,false,[]⟩
def oN(x:AOp):Bj:=⟨none,x,none,0,false,[]⟩
def oJ(i:Nat)(x:AOp):Bj:=⟨none,x,none,i,false,[]⟩
def oG(d g:Nat)(b:Bool)(i:Nat)(x:AOp):Bj:=⟨some d,x,some (g,b),i,false,[]⟩
def mT(i:Nat):AOp:=.mv (.t i)
def cI(n:Int):AX:=.c (.int .i64 n)
def Ad(i:Nat):AOp:=.load false 1 (.t i)
def Ah(i:Nat):AOp:=.nilck (.t i)
def Ac(o i:Nat):AOp:=.fad o (.t i)
def cB(b:Bool):AX:=.c (.bool b)
def iS(n:Int):SV:=.int .i64 n
def Ar(l:List Bj):AC:=.reg l false
def Ab(l:List Bj)(c:AC):AC:=.seq (.reg l false) c
def Ce(l:List Bj)(c:AC):AC:=.seq (.reg l true) c
def Aa(d s:Nat):Bj:=⟨some d,.mv (.t s),none,0,false,[]⟩
def Aj(a:Nat)(n:Int):AOp:=.bin 0 .eql (.t a) (.c (.int .i64 n))
def An(o:BinOp)(a:Nat)(n:Int):AOp:=.bin 0 o (.t a) (.c (.int .i64 n))
def Bb(o:BinOp)(a b:Nat):AOp:=.bin 0 o (.t a) (.t b)
def Az(a b:Nat):AOp:=.pick (.t a) (.t b) (.c (.bool false))
def Bf(a b:Nat):AOp:=.pick (.t a) (.c (.bool true)) (.t b)
def Al(n a b:Nat):AOp:=.store n (.t a) (.t b)
def Ak(n a:Nat):AOp:=.load true n (.t a)
def Cb:AOp:=.new [.int .i64 0,.int .i64 0,.int .i64 0,.int .i64 0,.nils]
def Da(l:List (Nat×Nat×AX)):AOp:=.build [.int .i64 0,.int .i64 0,.int .i64 0,.int .i64 0,.nils] l
def Ae(a:Nat)(x y:AC):AC:=.cond (.t a) x y
def Cu(a k:Nat):AC:=.cond (.t a) .skip (.exit k)
def Ay(l:List UInt8):AX:=.c (.str (bs l))
attribute [go_sem] oP oI oN oJ oG mT cI Ad Ah Ac cB iS Ar Ab Ce Aa Aj An Bb Az Bf Al Ak Cb Da Ae Cu Ay
end Go.Proofs.YtgdkddjdhijfnaaGreatDoor.Abs
