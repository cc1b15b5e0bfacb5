import Derived.Test.YtgfehkhcmnfpaaaGreatDoorVArt
import Derived.Test.YtgfehkhcmnfpaaaGreatDoorVEv
import Derived.Test.YtgfehkhcmnfpaaaGreatDoorRows
import Derived.OpenShut
import Derived.MakeChecks
import Derived.Ground.NamesProg
import Derived.Shelf.Strings.Builder1
import Derived.Test.YtgfehkhcmnfpaaaGreatDoorProg
import Derived.WalkKit
import Derived.WalkLawsBesides
import Derived.Shelf.Strings.BuilderK
import Derived.BigCall
import Derived.Lib.Hide
import Derived.StillTailTactics
import Derived.Deep.CutRange
import Derived.Deep.RegionHeld3
import Derived.Lib.ItoaLen
import Derived.Lib.ItoaNum
import Derived.KernelRfl
set_option linter.all false
set_option maxRecDepth 20000
set_option maxHeartbeats 4000000
namespace Go.Proofs.YtgfehkhcmnfpaaaGreatDoor.Abs
open Go Go.RowKit Go.Proofs.YtgfehkhcmnfpaaaGreatDoor
def A4s{P:Program}{w:World}{fuel:Nat}{t e:TypeId}{n:Nat}{cs:List Value}{d:DataW Unit}{p:List MemPlace}{base:Nat}{spare:Nat->Bool}{Rn:Bool}{enc:TypeId×Value->Unit}(ht:P.underlying t=some (.array n e))(he:P.underlying e=some (.int .u64))(hc:P.cellsOf e=1)(hct:P.cellsOf t=n)
  (l:List Int) (hn:l.length=n) (hd:d=.agg (l.map fun z=>.lit (.int .u64 z))) (h:DataW.trod enc P w base spare Rn fuel t cs=some (d,p)):cs=l.map (Value.int .u64):=by
 obtain⟨xs,m,rfl,hx,hl,Eg,Fr⟩:=DataW.trod_array ht h;rw[hd] at hx;simp only[Prod.mk.injEq,DataW.agg.injEq] at hx;obtain⟨hx,_⟩:=hx;refine List.ext_getElem (by rw[hl,hct,q_g,hn]) (fun i h1 h2=>?_);have hi:i<n:=by rw[q_g] at h2;omega
 have hxi:i<xs.length:=by omega
 have h3:=Fr i hi;rw[hc,q_f hxi] at h3;obtain⟨z,e1,e2,_⟩:=DataW.trod_int he h3;have h4:(l.map fun z=>(DataW.lit (.int .u64 z):DataW Unit))[i]?=(xs.map (·.1))[i]?:=by rw[hx]
 rw[q_ji,q_ji,q_f hxi,q_f (by omega:i<l.length),e2] at h4;simp only[q_jh,q_b,DataW.lit.injEq,Lit.int.injEq,true_and] at h4;have h5:(List.take 1 (cs.drop (i*1)))[0]?=some (.int .u64 z):=by rw[e1];rfl
 rw[q_jx,q_kk] at h5;simp only[Nat.mul_one,q_jp] at h5;rw[if_pos (by decide),q_f h1] at h5;rw[Option.some.inj h5,List.getElem_map,h4]
end Go.Proofs.YtgfehkhcmnfpaaaGreatDoor.Abs
namespace Go.Proofs
open Go.Shelf
def Tryz.sbRen:Go.Shelf.Ren:=⟨fun|166=>29|167=>31|169=>34|240=>62|276=>95|n=>n,fun|0=>0|3=>3|4=>4|5=>5|9=>9|20=>20|37=>51|70=>50|72=>53|75=>55|80=>63|127=>91|164=>114|n=>n,fun n=>n⟩
def Tryz.sb166:Lays.n166 Tryz.prog Tryz.sbRen:={
 mixed:=by kernel_rfl
 f166:=Tryz.func29.trans (congrArg some (by kernel_rfl))
 f240:=Tryz.func62.trans (congrArg some (by kernel_rfl))
 f276:=Tryz.func95.trans (congrArg some (by kernel_rfl))
 t0:=Tryz.underlying0
 a0:=Tryz.isAgg0
 z0:=Tryz.sizeOf0
 v0:=Tryz.zeroValue0
 t3:=Tryz.underlying3
 a3:=Tryz.isAgg3
 z3:=Tryz.sizeOf3
 v3:=Tryz.zeroValue3
 t4:=Tryz.underlying4
 a4:=Tryz.isAgg4
 z4:=Tryz.sizeOf4
 v4:=Tryz.zeroValue4
 t9:=Tryz.underlying9
 a9:=Tryz.isAgg9
 z9:=Tryz.sizeOf9
 v9:=Tryz.zeroValue9
 t20:=Tryz.underlying20
 a20:=Tryz.isAgg20
 z20:=Tryz.sizeOf20
 v20:=Tryz.zeroValue20
 t37:=Tryz.underlying51
 a37:=Tryz.isAgg51
 z37:=Tryz.sizeOf51
 v37:=Tryz.zeroValue51
 t70:=Tryz.underlying50
 a70:=Tryz.isAgg50
 z70:=Tryz.sizeOf50
 v70:=Tryz.zeroValue50
 t72:=Tryz.underlying53
 a72:=Tryz.isAgg53
 z72:=Tryz.sizeOf53
 v72:=Tryz.zeroValue53
 t75:=Tryz.underlying55
 a75:=Tryz.isAgg55
 z75:=Tryz.sizeOf55
 v75:=Tryz.zeroValue55
 t164:=Tryz.underlying114
 a164:=Tryz.isAgg114
 z164:=Tryz.sizeOf114
 v164:=Tryz.zeroValue114
}
def Tryz.sb167:Lays.n167 Tryz.prog Tryz.sbRen:={
 mixed:=by kernel_rfl
 f167:=Tryz.func31.trans (congrArg some (by kernel_rfl))
 f240:=Tryz.func62.trans (congrArg some (by kernel_rfl))
 f276:=Tryz.func95.trans (congrArg some (by kernel_rfl))
 t0:=Tryz.underlying0
 a0:=Tryz.isAgg0
 z0:=Tryz.sizeOf0
 v0:=Tryz.zeroValue0
 t4:=Tryz.underlying4
 a4:=Tryz.isAgg4
 z4:=Tryz.sizeOf4
 v4:=Tryz.zeroValue4
 t5:=Tryz.underlying5
 a5:=Tryz.isAgg5
 z5:=Tryz.sizeOf5
 v5:=Tryz.zeroValue5
 t9:=Tryz.underlying9
 a9:=Tryz.isAgg9
 z9:=Tryz.sizeOf9
 v9:=Tryz.zeroValue9
 t20:=Tryz.underlying20
 a20:=Tryz.isAgg20
 z20:=Tryz.sizeOf20
 v20:=Tryz.zeroValue20
 t37:=Tryz.underlying51
 a37:=Tryz.isAgg51
 z37:=Tryz.sizeOf51
 v37:=Tryz.zeroValue51
 t70:=Tryz.underlying50
 a70:=Tryz.isAgg50
 z70:=Tryz.sizeOf50
 v70:=Tryz.zeroValue50
 t72:=Tryz.underlying53
 a72:=Tryz.isAgg53
 z72:=Tryz.sizeOf53
 v72:=Tryz.zeroValue53
 t75:=Tryz.underlying55
 a75:=Tryz.isAgg55
 z75:=Tryz.sizeOf55
 v75:=Tryz.zeroValue55
 t164:=Tryz.underlying114
 a164:=Tryz.isAgg114
 z164:=Tryz.sizeOf114
 v164:=Tryz.zeroValue114
}
def Tryz.sb169:Lays.n169 Tryz.prog Tryz.sbRen:={
 mixed:=by kernel_rfl
 f169:=Tryz.func34.trans (congrArg some (by kernel_rfl))
 t0:=Tryz.underlying0
 a0:=Tryz.isAgg0
 z0:=Tryz.sizeOf0
 v0:=Tryz.zeroValue0
 t3:=Tryz.underlying3
 a3:=Tryz.isAgg3
 z3:=Tryz.sizeOf3
 v3:=Tryz.zeroValue3
 t9:=Tryz.underlying9
 a9:=Tryz.isAgg9
 z9:=Tryz.sizeOf9
 v9:=Tryz.zeroValue9
 t37:=Tryz.underlying51
 a37:=Tryz.isAgg51
 z37:=Tryz.sizeOf51
 v37:=Tryz.zeroValue51
 t70:=Tryz.underlying50
 a70:=Tryz.isAgg50
 z70:=Tryz.sizeOf50
 v70:=Tryz.zeroValue50
 t72:=Tryz.underlying53
 a72:=Tryz.isAgg53
 z72:=Tryz.sizeOf53
 v72:=Tryz.zeroValue53
 t127:=Tryz.underlying91
 a127:=Tryz.isAgg91
 z127:=Tryz.sizeOf91
 v127:=Tryz.zeroValue91
}
def Tryz.sbX:Builder.Extra Tryz.prog Tryz.sbRen:={
 sizeBuilder:=by kernel_rfl
 liesBuilder:=by kernel_rfl
 t5:=Tryz.underlying5
 a5:=Tryz.isAgg5
 z5:=Tryz.sizeOf5
 v5:=Tryz.zeroValue5
 infoByte:=by kernel_rfl
 cellsByte:=by kernel_rfl
 sizeByte:=by kernel_rfl
 neB5:=by decide
}
end Go.Proofs
namespace Go.Proofs.YtgfehkhcmnfpaaaGreatDoor.Abs
open Go Go.RowKit Go.Proofs.YtgfehkhcmnfpaaaGreatDoor
def If(k p:Int):Int:=
 if k=3\/k=5\/k=6\/k=7\/k=8\/k=9\/k=13\/k=14\/k=16\/k=17 then (if p=1 then 1 else 0)
 else if k=4 then (if p=1\/p=2 then 1 else 0)
 else if k=22 then (if p=2 then 2 else 0) else 0
def Agx(k p:Int)(w:World):Calls Tryz.prog 99 #[.int .i64 k,.int .i64 p] w fun e w'=>e=.returned (.int .i64 (If k p))/\w'=w:=by
 go_enter Tryz.func99,Tryz.ntmps99
 go_wp2
 all_goals
  go_ret
  refine⟨?_,rfl⟩;have e:∀z:Int,z=If k p->Ending.returned (.int .i64 z)=Ending.returned (.int .i64 (If k p)):=fun z h=>by rw[h]
  refine e _ ?_;unfold If
  repeat' split
  all_goals simp only[beq_iff_eq,beq_eq_false_iff_ne,ne_eq] at *
  all_goals omega
abbrev IsB(B b:Nat)(l:List UInt8)(W:World):Prop:=Lib.IsBuilderF 53 5 B b (Lib.byteCells l) W
def Oth(b:Nat)(w W:World):Prop:=∀(k:Nat) (o:Obj),w.heap[k]?=some o->k≠b->(∀c fz,o≠.cells c 5 fz)->W.heap[k]?=some o
section
variable{B b C:Nat}{l l':List UInt8}{w W W':World}
def Oth.refl:Oth b w w:=fun _ _ h _ _=>h
def Oth.trans(h1:Oth b w W)(h2:Oth b W W'):Oth b w W':=fun k o h n c=>h2 k o (h1 k o h n c) n c
def Oth.below(h:Below w.heap.size w W):Oth b w W:=fun k _ h1 _ _=>(h.block k (Array.getElem?_eq_some_iff.1 h1).1).trans h1
def Agv(h:Below C w W)(hc:B<=C):Below B w W:=⟨h.os,h.tape,h.output,h.size,fun k hk=>h.block k (by omega)⟩
def Axq(h:IsB B b l w)(hb:Below w.heap.size w W):IsB B b l W:=by
 have key:∀p,Lib.BuilderAtF 53 5 B b p (Lib.byteCells l) w->Lib.BuilderAtF 53 5 B b p (Lib.byteCells l) W:=fun p hp=>by
  have Aq:=hp.lt;obtain⟨hB,v,h1,h2,h3⟩:=hp;exact⟨hB,v,(hb.block b Aq).trans h1,h2.kept (row:=none) ⟨hb.os,hb.tape,hb.output,hb.size,fun k hk _=>hb.block k hk⟩ (by cases v.ownBlock<;>simp),h3⟩
 exact h.imp (key _) (key _)
def Ml{s:ByteArray}(h:IsB B b l w)(hl:l.length+s.size<=140737488355328)(hB:B<=w.heap.size) :
  Calls Tryz.prog 29 #[.pointer (some ⟨b,0,none⟩),.string s] w fun e w'=>e=.returned (.tuple #[.int .i64 s.size,.nilIface])/\IsB B b (l++s.data.toList) w'/\Below B w w'/\Oth b w w':=by
 refine Calls.mono (Any.Builder_WriteString_k Tryz.sb166 Tryz.sbX B b _ s w h (by rw[Lib.byteCells_length];exact hl) hB) (fun e w' hh=>?_);obtain⟨h1,h2,h3,h4⟩:=hh;refine⟨h1,?_,h3,fun k o q n c=>h4 k o q (fun e=>n (Option.some.inj e)) c⟩;unfold IsB;rw[Lib.byteCells_append,<-Lib.strCells_eq];exact Or.inr h2
def Acf{c:UInt8}(h:IsB B b l w)(hl:l.length+1<=140737488355328)(hB:B<=w.heap.size) :
  Calls Tryz.prog 31 #[.pointer (some ⟨b,0,none⟩),.int .u8 c.toNat] w fun e w'=>e=.returned .nilIface/\IsB B b (l++[c]) w'/\Below B w w'/\Oth b w w':=by
 refine Calls.mono (Any.Builder_WriteByte_k Tryz.sb167 Tryz.sbX B b _ c.toNat w h (by rw[Lib.byteCells_length];exact hl) hB) (fun e w' hh=>?_);obtain⟨h1,h2,h3,h4⟩:=hh;refine⟨h1,?_,h3,fun k o q n c=>h4 k o q (fun e=>n (Option.some.inj e)) c⟩;unfold IsB;rw[Lib.byteCells_append];exact Or.inr h2
def Ag2(h:IsB B b l w)(hB:B<=w.heap.size) :
  Calls Tryz.prog 34 #[.pointer (some ⟨b,0,none⟩)] w fun e w'=>e=.returned (.string ⟨l.toArray⟩)/\Below B w w'/\Oth b w w':=by
 refine Calls.mono (Any.Builder_String_any_k Tryz.sb169 Tryz.sbX B b l w h hB) (fun e w' hh=>?_);obtain⟨h1,_,h3,h4⟩:=hh;exact⟨h1,h3,fun k o q n c=>h4 k o q (fun e=>n (Option.some.inj e)) c⟩
end
structure SG(P:World->Prop)(B b:Nat)(ks:List (Nat×Obj))(l:List UInt8)(w W:World):Prop where
 bd:IsB B b l W
 p:P W
 hB:B<=W.heap.size
 t:∀p∈ks,W.heap[p.1]?=some p.2/\p.1≠b/\∀c fz,p.2≠.cells c 5 fz
 be:Below B w W
 ot:Oth b w W
def Uo(P:World->Prop)(B:Nat):Prop:=∀{W W':World},P W->Below B W W'->P W'
section
variable{P:World->Prop}{B b:Nat}{ks:List (Nat×Obj)}{l l':List UInt8}{w W W':World}
def SG.keep(h:SG P B b ks l w W)(hP:Uo P B)(k:Below W.heap.size W W'):SG P B b ks l w W':=
 ⟨Axq h.bd k,hP h.p (Agv k h.hB),q_ko h.hB k.size,fun p hp=>⟨(k.block _ (Array.getElem?_eq_some_iff.1 (h.t p hp).1).1).trans (h.t p hp).1,(h.t p hp).2⟩,h.be.trans (Agv k h.hB),h.ot.trans (.below k)⟩
def SG.put(h:SG P B b ks l w W)(hP:Uo P B)(h2:IsB B b l' W')(k:Below B W W')(o:Oth b W W'):SG P B b ks l' w W':=
 ⟨h2,hP h.p k,q_ko h.hB k.size,fun p hp=>⟨o p.1 _ (h.t p hp).1 (h.t p hp).2.1 (h.t p hp).2.2,(h.t p hp).2⟩,h.be.trans k,h.ot.trans o⟩
def SG.cell(h:SG P B b ks l w W){p:Nat}{cs:Array Value}{T:Nat}(hp:(p,Obj.cells cs T (0,0))∈ks)(j:Nat):W.cell? ⟨p,j,none⟩=cs[j]?:=Lib.cell_of_heap (h.t _ hp).1 j
def SG.alloc(h:SG P B b ks l w W)(hP:Uo P B){cs:Array Value}{T:Nat}(hT:T≠5):SG P B b ((W.heap.size,.cells cs T (0,0))::ks) l w (W.alloc (.cells cs T)):=by
 have Aq:b<W.heap.size:=by rcases h.bd with h|h<;>exact h.lt
 have hk:=h.keep hP ((Below.refl W.heap.size W).alloc (q_ja _) (.cells cs T));refine⟨hk.bd,hk.p,hk.hB,fun p hp=>?_,hk.be,hk.ot⟩;rcases q_kb.1 hp with rfl|hp
 ·exact⟨Array.getElem?_push_size,by dsimp only;omega,fun c fz e=>by cases e;exact hT rfl⟩
 ·exact hk.t p hp
def SG.less(h:SG P B b ks l w W){ks':List (Nat×Obj)}(hs:∀p∈ks',p∈ks):SG P B b ks' l w W:=⟨h.bd,h.p,h.hB,fun p hp=>h.t p (hs p hp),h.be,h.ot⟩
end
def Qo(l:List UInt8):(ByteArray.mk l.toArray).size=l.length:=by show l.toArray.size=_;simp
def Uh{a c:List UInt8}:(ByteArray.mk a.toArray++ByteArray.mk c.toArray).size=a.length+c.length:=by rw[ByteArray.size_append,Qo,Qo]
def Wc{B b:Nat}{l a c:List UInt8}{w:World}(h:IsB B b (l++(ByteArray.mk a.toArray++ByteArray.mk c.toArray).data.toList) w):IsB B b (l++(a++c)) w:=by
 rwa [show (ByteArray.mk a.toArray++ByteArray.mk c.toArray).data.toList=a++c by simp] at h
def Wy(P:World->Prop)(B b:Nat)(v:Value)(d:Nat)(tx:List UInt8):Prop:=∀(l:List UInt8) (w:World),IsB B b l w->P w->B<=w.heap.size->l.length+tx.length<=140737488355328 ->
 Calls Tryz.prog 65 #[.pointer (some ⟨b,0,none⟩),v,.int .i64 d] w fun e w'=>e=.returned (.tuple #[])/\IsB B b (l++tx) w'/\Below B w w'/\Oth b w w'
def Hw(P:World->Prop)(f:Nat)(args:List Value)(r:Value):Prop:=∀w:World,P w->Calls Tryz.prog f args.toArray w fun e w'=>e=.returned r/\Below w.heap.size w w'
section
variable{P:World->Prop}{B b:Nat}
def A5w(hP:Uo P B){i j n:Int}{s:Value}{d:Nat}{tx:List UInt8}(hi:wrap64 (wrap64 ((d:Int)-1)-i)=(d:Int)-1-i)(hs:s.oneCell'=true)
  (hn:Hw P 97 [.int .i64 ((d:Int)-1-i)] (.string ⟨tx.toArray⟩)) :
  Wy P B b (.agg #[.int .i64 2,.int .i64 i,.int .i64 j,.int .i64 n,s]) d tx:=by
 intro l w h hw hB hl;have s0:SG P B b [] l w w:=⟨h,hw,hB,fun _ h=>(by cases h),Below.refl _ _,.refl⟩
 have s1:=s0.alloc hP (cs:=#[.int .i64 2,.int .i64 i,.int .i64 j,.int .i64 n,s]) (T:=25) (by decide);have c0:=s1.cell (p:=w.heap.size) (List.mem_cons_self ..) 0;have c1:=s1.cell (p:=w.heap.size) (List.mem_cons_self ..) 1;have hn:=hn _ s1.p;clear s0
 go_enter Tryz.func65,Tryz.ntmps65
 go_wp2_with (go_at_call 97;refine hn.mono ?_)
 generalize w.alloc (.cells #[.int .i64 2,.int .i64 i,.int .i64 j,.int .i64 n,s] 25)=w0 at *
 generalize w.heap.size=tb at *
 rintro e W1 ⟨rfl,k1⟩;have s2:=s1.keep hP k1
 go_wp2_with (go_at_call 29;refine (Ml s2.bd (by rw[Qo];exact hl) s2.hB).mono ?_)
 rintro e W2 rfl b2 k2 o2;have s3:=s2.put hP b2 k2 o2
 go_wp2
 refine bodyPost_ret (results_none rfl _ _ _) rfl ?_;refine⟨rfl,?_,s3.be,s3.ot⟩;rw[show l++tx=l++(ByteArray.mk tx.toArray).data.toList by simp];exact b2
def Aol(k p:Int):0<=If k p/\If k p<=2:=by
 unfold If
 repeat' split
 all_goals omega
def A5u(hP:Uo P B){k i j n:Int}{A:Option Addr}{len cap d L:Nat}{wd ni nj nd nd1:List UInt8}(hk:¬k=2)(hL:L=0\/L=1\/L=2)
  (hw:Hw P 98 [.agg #[.int .i64 k,.int .i64 i,.int .i64 j,.int .i64 n,.slice A len cap]] (.tuple #[.string ⟨wd.toArray⟩,.int .i64 L]))
  (hi:0<L->Hw P 32 [.int .i64 i] (.string ⟨ni.toArray⟩)) (hj:1<L->Hw P 32 [.int .i64 j] (.string ⟨nj.toArray⟩))
  (hd:Hw P 97 [.int .i64 d] (.string ⟨nd.toArray⟩)) (hd1:Hw P 97 [.int .i64 (d+1)] (.string ⟨nd1.toArray⟩)) (Gi:d<=1000000000)
  {part kt:Nat->List UInt8} {ki ii ji ui:Nat->Int} {sa:Nat->Option Addr} {sl sc:Nat->Nat} {blk off:Nat}
  (p0:part 0=[]) (p1:∀x,part (x+1)=part x++((if k=22/\x=2 then (32::nd)++(32::nd1) else [])++[32]++kt x)) (Fo:∀x,x<len->(part (x+1)).length<=(part len).length)
  (hA:0<len->A=some ⟨blk,off,none⟩) (Bl:len<=100)
  (hK:∀x,x<len->∀W,P W->W.cell? ⟨blk,off+x*5,none⟩=some (.int .i64 (ki x))/\W.cell? ⟨blk,off+x*5+1,none⟩=some (.int .i64 (ii x))/\W.cell? ⟨blk,off+x*5+2,none⟩=some (.int .i64 (ji x))/\W.cell? ⟨blk,off+x*5+3,none⟩=some (.int .i64 (ui x))/\W.cell? ⟨blk,off+x*5+4,none⟩=some (.slice (sa x) (sl x) (sc x)))
  (hR:∀x,x<len->Wy P B b (.agg #[.int .i64 (ki x),.int .i64 (ii x),.int .i64 (ji x),.int .i64 (ui x),.slice (sa x) (sl x) (sc x)]) (d+(If k x).toNat) (kt x)) :
  Wy P B b (.agg #[.int .i64 k,.int .i64 i,.int .i64 j,.int .i64 n,.slice A len cap]) d (([40]++wd)++(if L=0 then [] else if L=1 then 32::ni else (32::ni)++(32::nj))++(if If k 1=1 then 32::nd else [])++part len++[41]):=by
 intro l w h hp hB hl;have s0:SG P B b [] l w w:=⟨h,hp,hB,fun _ h=>(by cases h),Below.refl _ _,.refl⟩
 have s1:=s0.alloc hP (cs:=#[.int .i64 k,.int .i64 i,.int .i64 j,.int .i64 n,.slice A len cap]) (T:=25) (by decide);have c0:=s1.cell (p:=w.heap.size) (List.mem_cons_self ..) 0;have hw:=hw _ s1.p;obtain⟨T1,Rd⟩:∃T1:List UInt8,T1=(if L=0 then [] else if L=1 then 32::ni else (32::ni)++(32::nj)):=⟨_,rfl⟩
 obtain⟨T2,Pw⟩:∃T2:List UInt8,T2=(if If k 1=1 then 32::nd else []):=⟨_,rfl⟩
 rw[<-Rd,<-Pw] at hl |-;have hl0:l.length+(1+wd.length)+T1.length+T2.length+(part len).length+1<=140737488355328:=by
  simp only[q_jr,q_jk,List.length_nil] at hl;omega
 have hkb:(k==2)=false:=by simp[hk]
 have n1:¬(9223372036854775807<1+wd.length):=by omega
 have q1:l.length+(ByteArray.mk #[40]++ByteArray.mk wd.toArray).size<=140737488355328:=by rw[Uh (a:=[40])];show _+(1+_)<=_;omega
 clear s0 hl
 go_enter Tryz.func65,Tryz.ntmps65
 go_wp2_with (go_at_call 98;refine hw.mono ?_)
 generalize w.alloc (.cells #[.int .i64 k,.int .i64 i,.int .i64 j,.int .i64 n,.slice A len cap] 25)=w0 at *
 generalize w.heap.size=tb at *
 rintro e W1 ⟨rfl,k1⟩;have s2:=s1.keep hP k1
 go_upto_if 31 with (go_at_call 29;refine (Ml s2.bd q1 s2.hB).mono ?_)
 rintro e W2 ⟨rfl,b2,k2,o2⟩;have s3:=s2.put hP (Wc b2) k2 o2;clear b2 k2 o2 s2 k1 hw c0 s1 n1 q1
 go_upto_if 31 with fail
 obtain⟨U1,Re⟩:∃U1:List UInt8,U1=(if 0<L then 32::ni else []):=⟨_,rfl⟩
 go_cut [] from 31 to 37 (fun wx=>SG P B b [(tb,.cells #[.int .i64 k,.int .i64 i,.int .i64 j,.int .i64 n,.slice A len cap] 25 (0,0))] (l++([40]++wd)++U1) w wx)
 case first=>
  by_cases h0:0<L
  ·have c1:=s3.cell (p:=tb) (List.mem_cons_self ..) 1;have hi:=hi h0 _ s3.p;have hT:1+ni.length<=T1.length:=by
    rw[Rd,if_neg (by omega)];split<;>simp<;>omega
   have n2:¬(9223372036854775807<1+ni.length):=by omega
   have q2:(l++([40]++wd)).length+(ByteArray.mk #[32]++ByteArray.mk ni.toArray).size<=140737488355328:=by
    rw[Uh (a:=[32])];simp only[q_jr,q_jk,List.length_nil];omega
   go_wp2_with (go_at_call 32;refine hi.mono ?_)
   rintro e W3 ⟨rfl,k3⟩;have s4:=s3.keep hP k3
   go_wp2_with (go_at_call 29;refine (Ml s4.bd q2 s4.hB).mono ?_)
   rintro e W4 ⟨rfl,b4,k4,o4⟩;have s5:=s4.put hP (Wc b4) k4 o4
   go_wp2
   go_meet
   case rel=>rw[Re,if_pos h0];exact s5
  ·go_wp2
   go_meet
   case rel=>rw[Re,if_neg h0,q_k];exact s3
 case rest=>
  clear s3;have s3:=hcut;clear hcut;have hU:U1.length<=T1.length/\(1<L->U1.length+1+nj.length<=T1.length)/\U1++(if 1<L then 32::nj else [])=T1:=by
   rcases hL with rfl|rfl|rfl<;>simp[Re,Rd]<;>omega
  go_upto_if 39 with fail
  go_cut [] from 38 to 45 (fun wx=>SG P B b [(tb,.cells #[.int .i64 k,.int .i64 i,.int .i64 j,.int .i64 n,.slice A len cap] 25 (0,0))] (l++([40]++wd)++T1) w wx)
  case first=>
   by_cases h0:1<L
   ·have c1:=s3.cell (p:=tb) (List.mem_cons_self ..) 2;have hj:=hj h0 _ s3.p;have hT:=hU.2.1 h0;have n2:¬(9223372036854775807<1+nj.length):=by omega
    have q2:(l++([40]++wd)++U1).length+(ByteArray.mk #[32]++ByteArray.mk nj.toArray).size<=140737488355328:=by
     rw[Uh (a:=[32])];simp only[q_jr,q_jk,List.length_nil];omega
    go_wp2_with (go_at_call 32;refine hj.mono ?_)
    rintro e W3 ⟨rfl,k3⟩;have s4:=s3.keep hP k3
    go_wp2_with (go_at_call 29;refine (Ml s4.bd q2 s4.hB).mono ?_)
    rintro e W4 ⟨rfl,b4,k4,o4⟩;have s5:=s4.put hP (Wc b4) k4 o4
    go_wp2
    go_meet
    case rel=>rw[<-hU.2.2,if_pos h0,<-q_ju];exact s5
   ·go_wp2
    go_meet
    case rel=>rw[<-hU.2.2,if_neg h0,q_k];exact s3
  case rest=>
   clear s3 hU Re Rd;have s3:=hcut;clear hcut;have c0:=s3.cell (p:=tb) (List.mem_cons_self ..) 0
   go_upto_if 49 with (go_at_call 99;refine (Agx k 1 _).mono ?_)
   rintro e _ ⟨rfl,rfl⟩
   go_upto_if 49 with fail
   go_cut [] from 46 to 54 (fun wx=>SG P B b [(tb,.cells #[.int .i64 k,.int .i64 i,.int .i64 j,.int .i64 n,.slice A len cap] 25 (0,0))] (l++([40]++wd)++T1++T2) w wx)
   case first=>
    by_cases h0:If k 1=1
    ·have h0b:(If k 1==1)=true:=by simp[h0]
     have hd:=hd _ s3.p;have hT:1+nd.length<=T2.length:=by rw[Pw,if_pos h0];simp;omega
     have n2:¬(9223372036854775807<1+nd.length):=by omega
     have q2:(l++([40]++wd)++T1).length+(ByteArray.mk #[32]++ByteArray.mk nd.toArray).size<=140737488355328:=by
      rw[Uh (a:=[32])];simp only[q_jr,q_jk,List.length_nil];omega
     go_wp2_with (go_at_call 97;refine hd.mono ?_)
     rintro e W3 ⟨rfl,k3⟩;have s4:=s3.keep hP k3
     go_wp2_with (go_at_call 29;refine (Ml s4.bd q2 s4.hB).mono ?_)
     rintro e W4 ⟨rfl,b4,k4,o4⟩;have s5:=s4.put hP (Wc b4) k4 o4
     go_wp2
     go_meet
     case rel=>rw[Pw,if_pos h0];exact s5
    ·have h0b:(If k 1==1)=false:=by simp[h0]
     go_wp2
     go_meet
     case rel=>rw[Pw,if_neg h0,q_k];exact s3
   case rest=>
    clear s3 Pw c0;have s3:=hcut;clear hcut;have c4:=s3.cell (p:=tb) (List.mem_cons_self ..) 4
    go_wp2_with fail
    clear c4
    go_loopw [58] (fun y wr=>∃x:Nat,x<=len/\y=.int .i64 x/\SG P B b [(tb,.cells #[.int .i64 k,.int .i64 i,.int .i64 j,.int .i64 n,.slice A len cap] 25 (0,0))] (l++([40]++wd)++T1++T2++part x) w wr) (fun y _=>len-(intOf y).toNat)
    case atStart=>exact⟨0,Nat.zero_le _,rfl,by rw[p0,q_k];exact s3⟩
    case round=>
     obtain⟨x,hx,rfl,hs⟩:=hrel
     by_cases Aq:x<len
     ·obtain rfl:=hA (by omega);obtain⟨g0,g1,g2,g3,g4⟩:=hK x Aq wr hs.p;have Rs:=p1 x;have hlx:=Fo x Aq;have hR:=hR x Aq;clear hK p1 Fo s3 p0;have ha:=hs.alloc hP (cs:=#[.int .i64 (ki x),.int .i64 (ii x),.int .i64 (ji x),.int .i64 (ui x),.slice (sa x) (sl x) (sc x)]) (T:=25) (by decide);have e0:=ha.cell (p:=tb) (List.mem_cons_of_mem _ (q_ki.2 rfl)) 0;obtain⟨G,hG⟩:∃G:List UInt8,G=(if k=22/\x=2 then (32::nd)++(32::nd1) else []):=⟨_,rfl⟩
      rw[<-hG] at Rs;rw[Rs] at hlx;simp only[q_jr,q_jk,List.length_nil] at hlx
      go_upto_region 14 with fail
      generalize wr.alloc (.cells #[.int .i64 (ki x),.int .i64 (ii x),.int .i64 (ji x),.int .i64 (ui x),.slice (sa x) (sl x) (sc x)] 25)=wa at *
      generalize wr.heap.size=kb at *
      obtain⟨g,hg⟩:∃g:Bool,g=decide (k=22/\x=2):=⟨_,rfl⟩
      have gH:=Lib.hid hg;clear hg;have Pv:g=true->G=(32::nd)++(32::nd1):=fun h=>by rw[hG,if_pos (q_ku (gH.out.symm.trans h))]
      have Pu:g=false->G=[]:=fun h=>by rw[hG,if_neg (q_kv (gH.out.symm.trans h))]
      clear hG
      go_cut [69] from 63 to 69 (fun c wx=>c=.bool g/\wx=wa)
      case first=>
       by_cases Ii:k=22
       ·by_cases Ha:x=2
        ·have Aiq:(k==22)=true:=by simp[Ii]
         have hx2b:((x:Int)==2)=true:=by simp[Ha]
         have hc:=q_jn (p:=k=22/\x=2) ⟨Ii,Ha⟩;clear Ii Ha;have cH:=Lib.hid hc;clear hc
         go_wp2
         go_meet
         case rel=>exact⟨congrArg Value.bool (cH.out.symm.trans gH.out.symm),rfl⟩
        ·have Aiq:(k==22)=true:=by simp[Ii]
         have hx2b:((x:Int)==2)=false:=by simp;omega
         have hc:=q_je (p:=k=22/\x=2) (fun h=>Ha h.2);clear Ii Ha;have cH:=Lib.hid hc;clear hc
         go_wp2
         go_meet
         case rel=>exact⟨congrArg Value.bool (cH.out.symm.trans gH.out.symm),rfl⟩
       ·have Aiq:(k==22)=false:=by simp[Ii]
        have hc:=q_je (p:=k=22/\x=2) (fun h=>Ii h.1);clear Ii;have cH:=Lib.hid hc;clear hc
        go_wp2
        go_meet
        case rel=>exact⟨congrArg Value.bool (cH.out.symm.trans gH.out.symm),rfl⟩
      case rest=>
      obtain⟨rfl,rfl⟩:=hcut
      go_upto_if 69 with fail
      go_cut [] from 69 to 79 (fun wx=>SG P B b [(kb,.cells #[.int .i64 (ki x),.int .i64 (ii x),.int .i64 (ji x),.int .i64 (ui x),.slice (sa x) (sl x) (sc x)] 25 (0,0)),(tb,.cells #[.int .i64 k,.int .i64 i,.int .i64 j,.int .i64 n,.slice (some ⟨blk,off,none⟩) len cap] 25 (0,0))] (l++([40]++wd)++T1++T2++part x++G) w wx)
      case first=>
       cases g with
       |true=>
        have hG:=Pv rfl;clear Pv Pu gH;subst hG;have hd:=hd _ ha.p;simp only[q_jr,q_jk] at hlx;have n2:¬(9223372036854775807<1+nd.length):=by omega
        have n3:¬(9223372036854775807<1+nd.length+1):=by omega
        have n4:¬(9223372036854775807<1+nd.length+1+nd1.length):=by omega
        have n3H:=Lib.hid n3;have n4H:=Lib.hid n4;clear n3 n4;have q2:(l++([40]++wd)++T1++T2++part x).length+(((ByteArray.mk #[32]++ByteArray.mk nd.toArray)++ByteArray.mk #[32])++ByteArray.mk nd1.toArray).size<=140737488355328:=by
         rw[ByteArray.size_append,ByteArray.size_append,Uh (a:=[32]),Qo nd1,Qo [32]];simp only[q_jr,q_jk,List.length_nil];omega
        go_wp2_with (go_at_call 97;refine hd.mono ?_)
        first|(rintro e W3 rfl k3)|(rintro e W3 ⟨rfl,k3⟩)
        have s4:=ha.keep hP k3;have hd1:=hd1 _ s4.p
        go_simp
        iterate 5 (first|go_values|go_skip|go_guarded|go_step)
        clear n2;have n3:=n3H.out
        go_step
        clear n3 hlx hl0;have q2H:=Lib.hid q2;clear q2
        go_wp2_with (go_at_call 97;refine hd1.mono ?_)
        first|(rintro e W4 rfl k4)|(rintro e W4 ⟨rfl,k4⟩)
        have s5:=s4.keep hP k4;have n4:=n4H.out
        go_wp2_with (go_at_call 29;refine (Ml s5.bd q2H.out s5.hB).mono ?_)
        rintro e W5 ⟨rfl,b5,k5,o5⟩;rw[show (((ByteArray.mk #[32]++ByteArray.mk nd.toArray)++ByteArray.mk #[32])++ByteArray.mk nd1.toArray).data.toList=(32::nd)++(32::nd1) by simp] at b5;have s6:=s5.put hP b5 k5 o5
        go_wp2
        go_meet
        case rel=>exact s6
       |false=>
        have hG:=Pu rfl;clear Pv Pu gH;subst hG
        go_wp2
        go_meet
        case rel=>rw[q_k];exact ha
      case rest=>
       clear ha hd hd1 e0 Pv Pu gH;have q2:(l++([40]++wd)++T1++T2++part x++G).length+1<=140737488355328:=by
        simp only[q_jr,q_jk,List.length_nil];omega
       go_wp2_with (go_at_call 31;refine (Acf (c:=32) hcut.bd q2 hcut.hB).mono ?_)
       first|(rintro e W3 rfl b3 k3 o3)|(rintro e W3 ⟨rfl,b3,k3,o3⟩)
       have s4:=hcut.put hP b3 k3 o3;clear hcut b3 k3 o3 q2;have f0:=s4.cell (p:=kb) (List.mem_cons_self ..) 0;have f1:=s4.cell (p:=kb) (List.mem_cons_self ..) 1;have f2:=s4.cell (p:=kb) (List.mem_cons_self ..) 2;have f3:=s4.cell (p:=kb) (List.mem_cons_self ..) 3;have f4:=s4.cell (p:=kb) (List.mem_cons_self ..) 4;have e0:=s4.cell (p:=tb) (List.mem_cons_of_mem _ (q_ki.2 rfl)) 0;have Xx:=Aol k x;have w2:wrap64 ((d:Int)+If k x)=(d:Int)+If k x:=by unfold wrap64;omega
       have hR:=hR _ W3.drew (s4.keep hP (Below.refl _ W3).drew).bd (s4.keep hP (Below.refl _ W3).drew).p s4.hB (by simp only[q_jr,q_jk,List.length_nil];omega)
       go_upto_region 17 with fail
       refine wp_region_still_tail 8 (by kernel_rfl) (by kernel_rfl) ?_;simp only[List.take_succ_cons,List.take_zero,List.drop_succ_cons,List.drop_zero]
       repeat still_step
       still_call (Agx k x _)
       repeat still_step
       refine wpStill_nil ?_;have sD:=s4.keep hP (Below.refl _ W3).drew;clear f0 f1 f2 f3 f4 e0 s4;have pH:=Lib.hid Rs;clear Rs;change wpList _ _ _ _ _ W3.drew;generalize W3.drew=W9 at *
       iterate 1 (first|go_values|go_skip|go_guarded|go_step)
       go_step
       rw[show ((d+(If k x).toNat:Nat):Int)=(d:Int)+If k x by omega] at hR;refine hR.mono ?_
       first|(rintro e W4 rfl b4 k4 o4)|(rintro e W4 ⟨rfl,b4,k4,o4⟩)
       have s5:=sD.put hP b4 k4 o4;clear hR w2 Xx
       go_wp2
       go_roundw
       case rel=>
        refine⟨x+1,by omega,by simp,?_⟩;have s6:=s5.less (ks':=[(tb,.cells #[.int .i64 k,.int .i64 i,.int .i64 j,.int .i64 n,.slice (some ⟨blk,off,none⟩) len cap] 25 (0,0))]) (fun p hp=>List.mem_cons_of_mem _ hp);rw[pH.out];simpa only[q_ju,q_kn,q_km] using s6
       case measure=>simp[intOf];omega
     ·obtain rfl:x=len:=by omega
      clear hK p1 Fo hR;have q2:(l++([40]++wd)++T1++T2++part x).length+1<=140737488355328:=by
       simp only[q_jr,q_jk,List.length_nil];omega
      go_wp2_with (go_at_call 31;refine (Acf (c:=41) hs.bd q2 hs.hB).mono ?_)
      first|(rintro e W4 rfl b4 k4 o4)|(rintro e W4 ⟨rfl,b4,k4,o4⟩)
      have s5:=hs.put hP b4 k4 o4
      go_wp2
      go_end0
      refine⟨rfl,?_,s5.be,s5.ot⟩;simpa only[q_ju,q_kn,q_km] using s5.bd
end
open Go Go.RowKit
abbrev By:=List UInt8
structure Tok where
 k:Nat
 w:By
 p:Nat
 deriving Inhabited
def Hk(t:Tok):List SV:=[.int .i64 t.k,.str (bs t.w),.int .i64 t.p]
def My(n:Nat):Bool:=(decide (97<=n) && decide (n<=122)) || (decide (65<=n) && decide (n<=90))
def Jh(n:Nat):Bool:=decide (48<=n) && decide (n<=57)
def Ab6(c:UInt8):Bool:=My c.toNat || Jh c.toNat
def Gx(w:By):List By->Option Nat
 |[]=>none
 |n::l=>if n==w then some 0 else (Gx w l).map (·+1)
def symsL:List By:=[[117,105,112],[102,117,110,101,120,116],[115,121,109],[116,114,97,110,115],[116,114],[104,101,116],[116,121,112],[116,114,104],[104,112],[104,50,101],[101,50,104],[114,112],[99,112,105],[99,115,105,103],[99,108,97,109],[99,97,112,112],[99,112,97,105,114],[99,102,115,116],[99,115,110,100],[99,101,113],[99,114,101,102,108]]
def arN(n:Nat):Nat:=[5,5,4,6,4,4,5,4,5,4,4,6,6,6,9,12,12,9,9,9,6].getD (n-1) 0
def Lg(w:By):List (By×Nat×By)->Option (Nat×By)
 |[]=>none
 |(v,k,s)::l=>if v==w then some (k,s) else Lg w l
def skF:Bool->By->Nat
 |_,[]=>0
 |true,c::r=>if c.toNat=10 then skF false r+1 else skF true r+1
 |false,c::r=>if c.toNat=32\/c.toNat=9\/c.toNat=10 then skF false r+1 else if c.toNat=59 then skF true r+1 else 0
def A2u:∀(s:By) (b:Bool),skF b s<=s.length:=by
 intro s
 induction s with
 |nil=>intro b;cases b<;>simp[skF]
 |cons c r ih=>
  intro b;have h1:=ih true;have h2:=ih false;cases b<;>simp only[skF,q_jk]<;>(repeat' split)<;>omega
def Jt(c:UInt8):Bool:=Jh c.toNat
def Hc(w:By):Nat:=w.foldl (fun n c=>10*n+(c.toNat-48)) 0
def Ez(w:By):Option Nat:=
 if w.length=0\/7<w.length then none
 else if w.all Jt then (if 1000000<Hc w\/Lib.itoa (Hc w:Nat)≠w then none else some (Hc w)) else none
def Ci(p:Nat):By->Tok×Bool
 |[]=>(⟨0,[],0⟩,false)
 |c::r=>
  if c.toNat=40 then (⟨1,[40],p⟩,true)
  else if c.toNat=41 then (⟨2,[41],p⟩,true)
  else if My c.toNat then (⟨3,c::r.takeWhile Ab6,p⟩,decide ((r.takeWhile Ab6).length<20))
  else if Jh c.toNat then (⟨4,c::r.takeWhile Jt,p⟩,(Ez (c::r.takeWhile Jt)).isSome && (match r.dropWhile Jt with|[]=>true|d::_=>!My d.toNat))
  else (⟨0,[],0⟩,false)
def We:Nat->Nat->By->List Tok×Option Nat
 |0,_,_=>([],none)
 |f+1,p,s=>
  match s.drop (skF false s) with
  |[]=>([],none)
  |s'=>if (Ci (p+skF false s) s').2 then
    ((Ci (p+skF false s) s').1::(We f (p+skF false s+(Ci (p+skF false s) s').1.w.length) (s'.drop (Ci (p+skF false s) s').1.w.length)).1,(We f (p+skF false s+(Ci (p+skF false s) s').1.w.length) (s'.drop (Ci (p+skF false s) s').1.w.length)).2)
   else ([],some (p+skF false s))
def Ce(l:By):List Tok×Option Nat:=We (l.length+1) 0 l
structure RC where
 L:List Tok
 e:Nat
 i:Nat
 j:Nat
structure RS where
 k:Nat
 bad:Bool
 at_:Nat
 D:GV
def RC.tk(c:RC)(k:Nat):Tok:=c.L.getD k ⟨0,[],0⟩
def De(c:RC)(s:RS)(k:Nat):RS:=if s.bad then s else { s with bad:=true,at_:=if k<c.L.length then (c.tk k).p else c.e }
def RS.nx(s:RS):RS:={ s with k:=s.k+1 }
def An(c:RC)(s:RS)(kd:Nat):By×RS:=if s.bad=false/\s.k<c.L.length/\(c.tk s.k).k=kd then ((c.tk s.k).w,s.nx) else ([],De c s s.k)
def Jp(c:RC)(lev:RS->Nat×RS)(s:RS):Nat×RS:=
 let q:Nat×RS:=
  if s.k<c.L.length/\(c.tk s.k).k=3/\(c.tk s.k).w=[115,117,99] then ((lev s.nx).1+1,(lev s.nx).2)
  else if s.k<c.L.length/\(c.tk s.k).k=3/\(c.tk s.k).w=[109,97,120] then (max (lev s.nx).1 (lev (lev s.nx).2).1,(lev (lev s.nx).2).2)
  else (0,De c s s.k)
 (q.1,(An c q.2 2).2)
def Cy(c:RC):Nat->RS->Nat×RS
 |0,s=>(0,s)
 |f+1,s=>
  if s.bad=false/\s.k<c.L.length then
   let q:Nat×RS:=
    if (c.tk s.k).k=4 then ((Ez (c.tk s.k).w).getD 0,s.nx)
    else if (c.tk s.k).k=3/\(c.tk s.k).w=[105] then (c.i,s.nx)
    else if (c.tk s.k).k=3/\(c.tk s.k).w=[106] then (c.j,s.nx)
    else if (c.tk s.k).k=1 then Jp c (Cy c f) s.nx
    else (0,De c s s.k)
   (q.1,if q.2.bad=false/\1000<q.1 then De c q.2 s.k else q.2)
  else (0,De c s s.k)
def zR:Tm:=.mk 0 0 0 0 []
def Kx(c:RC)(ns:List By)(s:RS):Tm×RS:=
 match Gx (c.tk s.k).w ns with
 |some n=>(.mk 2 n 0 0 [],s.nx)
 |none=>(zR,De c s s.k)
def formsG:List (By×Nat×By):=
 [([115,111,114,116],1,[76]),([112,105],3,[76,77,120,116,98]),([108,97,109],4,[76,77,120,116,98,98]),([97,112,112],5,[76,77,120,116,98,116,116]),([115,105,103],6,[76,77,120,116,98]),([112,97,105,114],7,[76,77,120,116,98,116,116]),([102,115,116],8,[76,77,120,116,98,116]),([115,110,100],9,[76,77,120,116,98,116]),([101,113],10,[76,116,116,116]),([114,101,102,108],11,[76,116,116]),([116,114],12,[76,116,116,112,116]),([80,105],13,[120,116,98]),([76,97,109],14,[120,116,98]),([65,112,112],15,[116,116]),([83,105,103],16,[120,116,98]),([80,97,105,114],17,[120,116,98,116,116]),([70,115,116],18,[116]),([83,110,100],19,[116]),([69,113],20,[116,116,116]),([82,101,102,108],21,[116,116]),([74],22,[116,116,121,101,80,116,116,116]),([117,115,101],23,[83,76,77])]
def Mn(w:By):Nat×By:=(Lg w formsG).getD (0,[])
structure AccR where
 a:Nat:=0
 b:Nat:=0
 n:Nat:=0
 bd:List By:=[]
 l:List Tm:=[]
abbrev TR:=List By->Nat->RS->Tm×RS
def Gm(T:TR)(ns:List By):Nat->RS->List Tm×RS
 |0,s=>([],s)
 |m+1,s=>((T ns 2 s).1::(Gm T ns m (T ns 2 s).2).1,(Gm T ns m (T ns 2 s).2).2)
def ofR(k:Nat):Nat:=if k<=12 then 1 else 2
def Ef(c:RC)(T:TR)(ns:List By)(k:Nat)(ch:UInt8)(x:AccR)(s:RS):AccR×RS:=
 if ch.toNat=76 then ({ x with a:=(Cy c (c.L.length+1) s).1 },(Cy c (c.L.length+1) s).2)
 else if ch.toNat=77 then
  (if k=23 then
   let q:=Cy c (c.L.length+1) s
   let r:=Gm T ns (arN x.n) { q.2 with D:=[] }
   ({ x with b:=q.1,l:=r.1 },{ r.2 with D:=s.D++[.int .i64 23,.int .i64 x.a,.int .i64 q.1,.int .i64 x.n,.dsl 5 (r.1.map tv)]::r.2.D })
  else ({ x with b:=(Cy c (c.L.length+1) s).1 },(Cy c (c.L.length+1) s).2))
 else if ch.toNat=83 then
  (let q:=An c s 3
   match Gx q.1 symsL with
    |some n=>({ x with n:=n+1 },q.2)
    |none=>(x,De c q.2 (q.2.k-1)))
 else if ch.toNat=120\/ch.toNat=121\/ch.toNat=101 then ({ x with bd:=(An c s 3).1::x.bd },(An c s 3).2)
 else if ch.toNat=116 then ({ x with l:=x.l++[(T ns (ofR k) s).1] },(T ns (ofR k) s).2)
 else if ch.toNat=112 then ({ x with l:=x.l++[(T ns 2 s).1] },(T ns 2 s).2)
 else ({ x with l:=x.l++[(T (x.bd++ns) (ofR k) s).1] },(T (x.bd++ns) (ofR k) s).2)
def Es(c:RC)(T:TR)(ns:List By)(k:Nat):By->AccR->RS->AccR×RS
 |[],x,s=>(x,s)
 |ch::r,x,s=>if s.bad then (x,s) else Es c T ns k r (Ef c T ns k ch x s).1 (Ef c T ns k ch x s).2
def AccR.tm(k:Nat)(x:AccR):Tm:=.mk k x.a x.b x.n x.l
def Aj(c:RC)(T:TR)(ns:List By)(k:Nat)(sh:By)(s:RS):Tm×RS:=
 ((Es c T ns k sh {} s).1.tm k,(An c (Es c T ns k sh {} s).2 2).2)
def Fj(c:RC):Nat->TR
 |0,_,_,s=>(zR,s)
 |f+1,ns,want,s=>
  if s.bad then (zR,s)
  else if ¬s.k<c.L.length then (zR,De c s s.k)
  else if (c.tk s.k).k=3 then Kx c ns s
  else
   let s1:=(An c s 1).2
   let q:=An c s1 3
   let g:=Mn q.1
   if q.2.bad then (zR,q.2)
   else if g.1=0\/(want=1/\12<g.1)\/(want=2/\2<g.1/\g.1<=12) then (zR,De c q.2 s1.k)
   else Aj c (Fj c f) ns g.1 g.2 q.2
def Do(l:By):List Tok:=match Ce l with
 |(ts,none)=>ts
 |(_,some _)=>[]
def rcR(tx:By)(i j:Nat):RC:=match (Ce tx).2 with
 |none=>⟨Do tx,tx.length,i,j⟩
 |some p=>⟨Do (tx.take p),p,i,j⟩
def Hu(tx:By)(ns:List By)(i j:Nat):Tm×Option Nat:=
 let c:=rcR tx i j
 let q:=Fj c (c.L.length+1) ns 0 ⟨0,false,0,[]⟩
 let s:=if q.2.bad=false/\(q.2.k<c.L.length\/(Ce tx).2.isSome) then De c q.2 q.2.k else q.2
 if s.bad then (zR,some s.at_) else (q.1,none)
def lqp(S:Nat->St)(n i:Nat)(p:Prop)(Q:AE->St->Prop):AE->St->Prop:=fun e s'=>match e with|.normal=>i<n/\p/\Wk s' (S (i+1))|e=>Q e s'
def Ald{S:Nat->St}{n i:Nat}{p:Prop}{Q:AE->St->Prop}{s:St}:lqp S n i p Q .normal s=(i<n/\p/\Wk s (S (i+1))):=q_z
def Alc{S:Nat->St}{n i j:Nat}{p:Prop}{Q:AE->St->Prop}{s:St}:lqp S n i p Q (.exit j) s=Q (.exit j) s:=q_z
def Ale{S:Nat->St}{n i:Nat}{p:Prop}{Q:AE->St->Prop}{s:St}:lqp S n i p Q .ret s=Q .ret s:=q_z
attribute [go_sem] Ald Alc Ale
def Ul{C:CT}{b:AC}{Q:AE->St->Prop}(S:Nat->St)(n:Nat)(p:Nat->Prop)(Ox:∀i,i<=n->(∀j,j<i->p j)->vc C b (lqp S n i (p i) Q) (S i)){s:St}(h0:Wk s (S 0)):vc C (.loop b) Q s:=by
 refine Agd (fun m s=>∃i,i<=n/\m=n-i/\(∀j,j<i->p j)/\Wk s (S i)) (fun m s hI=>?_) n s ⟨0,Nat.zero_le _,rfl,fun j hj=>absurd hj (q_kq _),h0⟩;obtain⟨i,hi,rfl,hp,hw⟩:=hI;refine⟨S i,hw,j0 (fun e s' he=>?_) (Ox i hi hp)⟩;cases e with
 |normal=>exact⟨n-(i+1),by have:=he.1;omega,i+1,he.1,rfl,fun j hj=>(by rcases Nat.lt_succ_iff_lt_or_eq.1 hj with h|rfl;exact hp j h;exact he.2.1),he.2.2⟩
 |exit id=>exact he
 |ret=>exact he
def Fg{α:Type}{l:List α}{i:Nat}{d:α}(h:i<l.length):l[i]?.getD d∈l:=by
 rw[q_f h,q_jz];exact q_kd h
def Anu{α:Type}{l:List α}{f:α->Bool}{d:α}(h:∀j,j<l.length->f (l[j]?.getD d)=true):l.all f=true:=by
 rw[List.all_eq_true];intro x hx;obtain⟨i,hi,rfl⟩:=List.getElem_of_mem hx;have:=h i hi
 rwa [q_f hi,q_jz] at this
def Ant{α:Type}{l:List α}{f:α->Bool}{d:α}{i:Nat}(hi:i<l.length)(h:f (l[i]?.getD d)=false):l.all f=false:=by
 rw[List.all_eq_false];exact⟨_,Fg (d:=d) hi,by simp[h]⟩
def Gg{α:Type}(f:Nat->α->Bool):Nat->List α->Bool
 |_,[]=>true
 |i,x::l=>f i x && Gg f (i+1) l
def l8{α:Type}{f:Nat->α->Bool}{d:α}:∀{l:List α} {k:Nat},(∀j,j<l.length->f (k+j) (l[j]?.getD d)=true)->Gg f k l=true:=by
 intro l
 induction l with
 |nil=>intro k _;rfl
 |cons x l ih=>
  intro k h;simp only[Gg,q_jl];refine⟨by simpa using h 0 (by simp),ih fun j hj=>?_⟩;have:=h (j+1) (by simp;omega);rw[show k+1+j=k+(j+1) by omega];simpa using this
def Wz{α:Type}{f:Nat->α->Bool}{d:α}:∀{l:List α} {k i:Nat},i<l.length->f (k+i) (l[i]?.getD d)=false->Gg f k l=false:=by
 intro l
 induction l with
 |nil=>intro k i h;simp at h
 |cons x l ih=>
  intro k i hi h;simp only[Gg];cases i with
  |zero=>have h':f k x=false:=by simpa using h
         rw[h'];rfl
  |succ i=>
   rw[ih (k:=k+1) (i:=i) (by simpa using hi) (by rw[show k+1+i=k+(i+1) by omega];simpa using h),q_lb]
def Agq{α β:Type}{f:Nat->β->Bool}{g:α->β}:∀{l:List α} {k:Nat},Gg f k (l.map g)=Gg (fun i x=>f i (g x)) k l:=by
 intro l
 induction l with
 |nil=>intro k;rfl
 |cons x l ih=>intro k;simp only[q_h,Gg,ih]
def l7{α:Type}{f g:Nat->α->Bool}:∀{l:List α} {k:Nat},(∀i,∀x∈l,f i x=g i x)->Gg f k l=Gg g k l:=by
 intro l
 induction l with
 |nil=>intro k _;rfl
 |cons x l ih=>
  intro k h;simp only[Gg];rw[h k x (by simp),ih (fun i y hy=>h i y (by simp[hy]))]
def vcI(C:CT)(b:AC)(Q:AE->St->Prop)(n:Nat)(s:St):Prop:=Pj (fun Q' s'=>vc C b Q' s') Q n s
def lqi(C:CT)(b:AC)(Q:AE->St->Prop)(n:Nat):AE->St->Prop:=fun e s'=>match e with|.normal=>vcI C b Q n s'|e=>Q e s'
section
variable{C:CT}{b:AC}{Q:AE->St->Prop}{n:Nat}{s:St}
def Ays:lqi C b Q n .normal s=vcI C b Q n s:=q_z
def Ayr{j:Nat}:lqi C b Q n (.exit j) s=Q (.exit j) s:=q_z
def Ayt:lqi C b Q n .ret s=Q .ret s:=q_z
attribute [go_sem] Ays Ayr Ayt
def Bk(h:vc C b (lqi C b Q n) s):vcI C b Q (n+1) s:=by
 refine⟨s,.refl s,j0 (fun e s' he=>?_) h⟩;cases e with
 |normal=>exact he
 |exit id=>exact he
 |ret=>exact he
def Ff(n:Nat)(h:vcI C b Q n s):vc C (.loop b) Q s:=⟨n,h⟩
end
def wr_0:IntKind.i64.wrap 0=0:=by decide
def wr_1:IntKind.i64.wrap 1=1:=by decide
def wr_2:IntKind.i64.wrap 2=2:=by decide
def wr_3:IntKind.i64.wrap 3=3:=by decide
def wr_4:IntKind.i64.wrap 4=4:=by decide
def wr_5:IntKind.i64.wrap 5=5:=by decide
def wr_6:IntKind.i64.wrap 6=6:=by decide
attribute [go_sem] wr_0 wr_1 wr_2 wr_3 wr_4 wr_5 wr_6
open Go Go.Proofs Go.Proofs.YtgfehkhcmnfpaaaGreatDoor
def af54:AF:=⟨39,[(.t 6)],(Ad [oP 3 (.box (.t 0)),oP 6 (.mv (cI 0))] (.seq (Ad [Ac 9 2,oP 10 (Bi .lss 9 0)] (Ak 10 (Ad [Ac 11 1,oP 12 (Bi .add 11 1),Ac 6 12] .ret) .skip)) (Ad [oP 7 (.mv (cI 1))] (.seq (Ad [oP 8 (.mv (cI 0))] (.blk 0 (.loop (.seq (Ad [Ac 13 8,oP 14 (Af 4 3),oP 15 (Ag 14),oP 16 (.len false (.t 15)),oP 17 (Bu .lss 13 16),Ac 18 17,oG 19 18 true 0 (mT 7),oG 20 18 true 0 (mT 1),oG 21 18 true 0 (Bu .leq 19 20),oP 22 (Bv 18 21)] (Em 22 0)) (.seq (.blk 1 (Bo [Ac 25 7,oP 26 (Af 4 3),oP 27 (Ag 26),Ac 28 8,oP 29 (.iad 5 (.t 27) (.t 28)),oP 30 (Ao 5 29),Ac 31 1,Ac 32 7,oP 33 (Bu .sub 31 32),Ac 34 2,oP 35 (Bi .sub 34 1),oP 36 (.call 54 [(.t 30),(.t 33),(.t 35)]),oP 37 (Bu .add 25 36),Ac 7 37])) (Bo [Ac 23 8,oP 24 (Bi .add 23 1),Ac 8 24])))))) (Ad [Ac 38 7,Ac 6 38] .ret)))))⟩
def tr54:trF Tryz.prog Tryz.f54=some af54:=by kernel_rfl
attribute [go_sem] af54
def af162:AF:=⟨5,[(.cell 2 true 5)],(Ad [oP 2 Fe] (Ad [Ac 3 0,oP 4 (Iq [(0,(1,(cI 1))),(1,(1,(.t 3)))]),oN (Bn 5 2 4)] .ret))⟩
def tr162:trF Tryz.prog Tryz.f162=some af162:=by kernel_rfl
attribute [go_sem] af162
def af141:AF:=⟨33,[(.cell 2 true 5)],(Ad [oP 1 (.box (.t 0)),oP 2 Fe] (.seq (Ad [oP 6 (Af 4 1),oP 7 (Ag 6),oP 8 (.len false (.t 7)),oP 9 (Al 8 0)] (Ak 9 (Ad [oP 10 (Af 4 1),oN (.store 1 (.t 10) (.c .nils))] (Ad [oP 11 (Ao 5 1),oN (Bn 5 2 11)] .ret)) .skip)) (Ad [oP 12 (Af 4 1),oP 13 (Ag 12),oP 14 (.len false (.t 13)),oP 15 (.mk 5 56 [(iS 0),(iS 0),(iS 0),(iS 0),.nils] (.t 14) (.t 14)),Ac 3 15] (.seq (Ad [oP 16 (Af 4 1),oP 17 (Ag 16),oP 18 (.len false (.t 17)),oP 19 (.mv (cI 0))] (.blk 0 (.loop (Ad [oP 20 (Bu .lss 19 18)] (.seq (Em 20 0) (.seq (.blk 1 (Ad [Ac 21 19,oP 22 (.iad 5 (.t 17) (.t 19)),oP 23 (Ao 5 22),oP 5 Fe,Ac 4 21,oN (Bn 5 5 23)] (Bo [Ac 24 3,Ac 25 4,oP 26 (Ao 5 5),oP 27 (.call 141 [(.t 26)]),oP 28 (.iad 5 (.t 24) (.t 25)),oN (Bn 5 28 27)]))) (Bo [oP 29 (Bi .add 19 1),Ac 19 29]))))))) (Ad [Ac 30 3,oP 31 (Af 4 1),oN (Bn 1 31 30)] (Ad [oP 32 (Ao 5 1),oN (Bn 5 2 32)] .ret))))))⟩
def tr141:trF Tryz.prog Tryz.f141=some af141:=by kernel_rfl
attribute [go_sem] af141
def af18:AF:=⟨35,[(.t 4)],(Ad [oP 4 (.mv (cB false))] (.seq (Ad [Ac 7 0,oP 8 (.len false (.t 7)),Ac 9 1,oP 10 (Bu .gtr 8 9)] (Ak 10 (Ad [oP 4 (.mv (cB true))] .ret) .skip)) (Ad [oP 5 (.mv (cI 0))] (.seq (Ad [oP 6 (.mv (cI 0))] (.blk 0 (.loop (.seq (Ad [Ac 11 6,Ac 12 0,oP 13 (.len false (.t 12)),oP 14 (Bu .lss 11 13),Ac 15 14,oG 16 15 true 0 (mT 5),oG 17 15 true 0 (mT 1),oG 18 15 true 0 (Bu .leq 16 17),oP 19 (Bv 15 18)] (Em 19 0)) (.seq (.blk 1 (Bo [Ac 22 5,Ac 23 0,Ac 24 6,oP 25 (.iad 5 (.t 23) (.t 24)),oP 26 (Ao 5 25),Ac 27 1,Ac 28 5,oP 29 (Bu .sub 27 28),oP 30 (.call 54 [(.t 26),(.t 29),(cI 200)]),oP 31 (Bu .add 22 30),Ac 5 31])) (Bo [Ac 20 6,oP 21 (Bi .add 20 1),Ac 6 21])))))) (Ad [Ac 32 5,Ac 33 1,oP 34 (Bu .gtr 32 33),Ac 4 34] .ret)))))⟩
def tr18:trF Tryz.prog Tryz.f18=some af18:=by kernel_rfl
attribute [go_sem] af18
def af23:AF:=⟨5,[(.t 2)],(Ad [oP 1 (.box (.t 0)),oP 2 (.mv (cB false))] (Ad [oP 3 (Ao 5 1),oP 4 (.call 56 [(.t 3),(cI 2)]),Ac 2 4] .ret))⟩
def tr23:trF Tryz.prog Tryz.f23=some af23:=by kernel_rfl
attribute [go_sem] af23
def af56:AF:=⟨58,[(.t 4)],(Ad [oP 2 (.box (.t 0)),oP 4 (.mv (cB false))] (Ad [oP 9 (Af 0 2),oP 10 (Ag 9),oP 11 (.call 89 [(.t 10)]),Ac 5 11] (.seq (Ad [Ac 12 1,oP 13 (Bi .neq 12 0),Ac 14 13,oG 15 14 true 0 (mT 5),oG 16 14 true 0 (Bi .neq 15 0),oP 17 (Bv 14 16),Ac 18 17,oG 19 18 true 0 (mT 5),oG 20 18 true 0 (mT 1),oG 21 18 true 0 (Bu .neq 19 20),oP 22 (Bv 18 21)] (Ak 22 (Ad [oP 4 (.mv (cB false))] .ret) .skip)) (.seq (Cs [oP 23 (Af 4 2),⟨(some 24),(Ag 23),none,1,true,[]⟩,oI 25 2 (.len false (.t 24)),oI 26 3 (Af 0 2),oI 27 4 (Ag 26),oI 28 5 (Af 3 2),oI 29 6 (Ag 28),⟨(some 30),(.call 90 [(.t 27),(.t 29)]),none,7,false,[1]⟩,oI 31 8 (Bu .neq 25 30),oI 32 9 (mT 31),oG 33 32 false 10 (Ao 5 2),oG 34 32 false 11 (.call 91 [(.t 33)]),oG 35 32 false 12 (.un .not (.t 34)),oI 36 13 (Cx 32 35)] (Ak 36 (Ad [oP 4 (.mv (cB false))] .ret) .skip)) (.seq (Ad [oP 37 (Af 4 2),oP 38 (Ag 37),oP 39 (.len false (.t 38)),oP 40 (.mv (cI 0))] (.blk 0 (.loop (Ad [oP 41 (Bu .lss 40 39)] (.seq (Em 41 0) (.seq (.blk 1 (Ad [Ac 42 40,oP 43 (.iad 5 (.t 38) (.t 40)),oP 44 (Ao 5 43),oP 7 Fe,Ac 6 42,oN (Bn 5 7 44)] (Ad [Ac 45 5,Ac 8 45] (.seq (Ad [oP 46 (Af 0 2),oP 47 (Ag 46),oP 48 (Al 47 12),Ac 49 48,oG 50 49 true 0 (mT 6),oG 51 49 true 0 (Al 50 2),oP 52 (Bv 49 51)] (Ak 52 (Bo [oP 8 (.mv (cI 2))]) .skip)) (Ad [oP 53 (Ao 5 7),Ac 54 8,oP 55 (.call 56 [(.t 53),(.t 54)]),oP 56 (.un .not (.t 55))] (Ak 56 (Ad [oP 4 (.mv (cB false))] .ret) .skip)))))) (Bo [oP 57 (Bi .add 40 1),Ac 40 57]))))))) (Ad [oP 4 (.mv (cB true))] .ret))))))⟩
def tr56:trF Tryz.prog Tryz.f56=some af56:=by kernel_rfl
attribute [go_sem] af56
def af89:AF:=⟨13,[(.t 2)],(Ad [oP 2 (.mv (cI 0))] (.seq (.blk 0 (Ad [Ac 4 0,oP 5 (Al 4 1),Ac 6 5,oG 7 6 false 0 (mT 0),oG 8 6 false 0 (Al 7 2),oP 9 (Cx 6 8),Ac 3 9] (Ak 3 (Ad [oP 2 (.mv (cI 0))] .ret) (Ad [Ac 11 0,oP 12 (Bi .leq 11 12),Ac 10 12] (Ak 10 (Ad [oP 2 (.mv (cI 1))] .ret) .skip))))) (Ad [oP 2 (.mv (cI 2))] .ret)))⟩
def tr89:trF Tryz.prog Tryz.f89=some af89:=by kernel_rfl
attribute [go_sem] af89
def af90:AF:=⟨38,[(.t 4)],(Ad [oP 4 (.mv (cI 0))] (.seq (Ad [Ac 5 0] (.blk 0 (.seq (Ad [oP 7 (Al 5 1),Ac 6 7] (Ak 6 .skip (Bo [oP 8 (Al 5 2),Ac 6 8]))) (Ak 6 (Ad [oP 4 (.mv (cI 0))] .ret) (.seq (Ad [oP 10 (Al 5 18),Ac 9 10] (Ak 9 .skip (Bo [oP 11 (Al 5 19),Ac 9 11]))) (Ak 9 (Ad [oP 4 (.mv (cI 1))] .ret) (.seq (Ad [oP 13 (Al 5 3),Ac 12 13] (Ak 12 .skip (Ad [oP 14 (Al 5 6),Ac 12 14] (Ak 12 .skip (Ad [oP 15 (Al 5 13),Ac 12 15] (Ak 12 .skip (Ad [oP 16 (Al 5 14),Ac 12 16] (Ak 12 .skip (Ad [oP 17 (Al 5 15),Ac 12 17] (Ak 12 .skip (Ad [oP 18 (Al 5 16),Ac 12 18] (Ak 12 .skip (Ad [oP 19 (Al 5 21),Ac 12 19] (Ak 12 .skip (Bo [oP 20 (Al 5 11),Ac 12 20]))))))))))))))) (Ak 12 (Ad [oP 4 (.mv (cI 2))] .ret) (.seq (Ad [oP 22 (Al 5 4),Ac 21 22] (Ak 21 .skip (Ad [oP 23 (Al 5 8),Ac 21 23] (Ak 21 .skip (Ad [oP 24 (Al 5 9),Ac 21 24] (Ak 21 .skip (Ad [oP 25 (Al 5 10),Ac 21 25] (Ak 21 .skip (Bo [oP 26 (Al 5 20),Ac 21 26]))))))))) (Ak 21 (Ad [oP 4 (.mv (cI 3))] .ret) (.seq (Ad [oP 28 (Al 5 5),Ac 27 28] (Ak 27 .skip (Ad [oP 29 (Al 5 7),Ac 27 29] (Ak 27 .skip (Ad [oP 30 (Al 5 12),Ac 27 30] (Ak 27 .skip (Bo [oP 31 (Al 5 17),Ac 27 31]))))))) (Ak 27 (Ad [oP 4 (.mv (cI 4))] .ret) (Ad [oP 33 (Al 5 22),Ac 32 33] (Ak 32 (Ad [oP 4 (.mv (cI 6))] .ret) (Ad [oP 35 (Al 5 23),Ac 34 35] (Ak 34 (Ad [Ac 36 1,oP 37 (.call 130 [(.t 36)]),Ac 4 37] .ret) .skip)))))))))))))))) (Ad [oP 4 (.mv (cI (-1)))] .ret)))⟩
def tr90:trF Tryz.prog Tryz.f90=some af90:=by kernel_rfl
attribute [go_sem] af90
def af91:AF:=⟨87,[(.t 2)],(Ad [oP 1 (.box (.t 0)),oP 2 (.mv (cB false))] (.seq (Ad [oP 3 (Af 0 1),oP 4 (Ag 3)] (.blk 0 (.seq (Ad [oP 6 (Al 4 1),Ac 5 6] (Ak 5 .skip (Ad [oP 7 (Al 4 10),Ac 5 7] (Ak 5 .skip (Ad [oP 8 (Al 4 11),Ac 5 8] (Ak 5 .skip (Bo [oP 9 (Al 4 12),Ac 5 9]))))))) (Ak 5 (Ad [oP 10 (Af 1 1),oP 11 (Ag 10),oP 12 (.call 131 [(.t 11)]),Ac 13 12,oG 14 13 true 0 (Af 2 1),oG 15 13 true 0 (Ag 14),oG 16 13 true 0 (Al 15 0),oP 17 (Bv 13 16),Ac 18 17,oG 19 18 true 0 (Af 3 1),oG 20 18 true 0 (Ag 19),oG 21 18 true 0 (Al 20 0),oP 22 (Bv 18 21),Ac 2 22] .ret) (Ad [oP 24 (Al 4 2),Ac 23 24] (Ak 23 (Ad [oP 25 (Af 1 1),oP 26 (Ag 25),oP 27 (Bi .geq 26 0),Ac 28 27,oG 29 28 true 0 (Af 1 1),oG 30 28 true 0 (Ag 29),oG 31 28 true 0 (Bi .leq 30 2147483647),oP 32 (Bv 28 31),Ac 33 32,oG 34 33 true 0 (Af 2 1),oG 35 33 true 0 (Ag 34),oG 36 33 true 0 (Al 35 0),oP 37 (Bv 33 36),Ac 38 37,oG 39 38 true 0 (Af 3 1),oG 40 38 true 0 (Ag 39),oG 41 38 true 0 (Al 40 0),oP 42 (Bv 38 41),Ac 2 42] .ret) (.seq (Ad [oP 44 (Al 4 3),Ac 43 44] (Ak 43 .skip (Ad [oP 45 (Al 4 4),Ac 43 45] (Ak 43 .skip (Ad [oP 46 (Al 4 5),Ac 43 46] (Ak 43 .skip (Ad [oP 47 (Al 4 6),Ac 43 47] (Ak 43 .skip (Ad [oP 48 (Al 4 7),Ac 43 48] (Ak 43 .skip (Ad [oP 49 (Al 4 8),Ac 43 49] (Ak 43 .skip (Bo [oP 50 (Al 4 9),Ac 43 50]))))))))))))) (Ak 43 (Ad [oP 51 (Af 1 1),oP 52 (Ag 51),oP 53 (.call 131 [(.t 52)]),Ac 54 53,oG 55 54 true 0 (Af 2 1),oG 56 54 true 0 (Ag 55),oG 57 54 true 0 (.call 131 [(.t 56)]),oP 58 (Bv 54 57),Ac 59 58,oG 60 59 true 0 (Af 3 1),oG 61 59 true 0 (Ag 60),oG 62 59 true 0 (Al 61 0),oP 63 (Bv 59 62),Ac 2 63] .ret) (Ad [oP 65 (Al 4 23),Ac 64 65] (Ak 64 (Ad [oP 66 (Af 1 1),oP 67 (Ag 66),oP 68 (.call 131 [(.t 67)]),Ac 69 68,oG 70 69 true 0 (Af 2 1),oG 71 69 true 0 (Ag 70),oG 72 69 true 0 (.call 131 [(.t 71)]),oP 73 (Bv 69 72),Ac 2 73] .ret) .skip)))))))))) (Ad [oP 74 (Af 1 1),oP 75 (Ag 74),oP 76 (Al 75 0),Ac 77 76,oG 78 77 true 0 (Af 2 1),oG 79 77 true 0 (Ag 78),oG 80 77 true 0 (Al 79 0),oP 81 (Bv 77 80),Ac 82 81,oG 83 82 true 0 (Af 3 1),oG 84 82 true 0 (Ag 83),oG 85 82 true 0 (Al 84 0),oP 86 (Bv 82 85),Ac 2 86] .ret)))⟩
def tr91:trF Tryz.prog Tryz.f91=some af91:=by kernel_rfl
attribute [go_sem] af91
def af130:AF:=⟨30,[(.t 2)],(Ad [oP 2 (.mv (cI 0))] (.seq (Ad [Ac 3 0] (.blk 0 (.seq (Ad [oP 5 (Al 3 3),Ac 4 5] (Ak 4 .skip (Ad [oP 6 (Al 3 5),Ac 4 6] (Ak 4 .skip (Ad [oP 7 (Al 3 6),Ac 4 7] (Ak 4 .skip (Ad [oP 8 (Al 3 8),Ac 4 8] (Ak 4 .skip (Ad [oP 9 (Al 3 10),Ac 4 9] (Ak 4 .skip (Bo [oP 10 (Al 3 11),Ac 4 10]))))))))))) (Ak 4 (Ad [oP 2 (.mv (cI 4))] .ret) (.seq (Ad [oP 12 (Al 3 1),Ac 11 12] (Ak 11 .skip (Ad [oP 13 (Al 3 2),Ac 11 13] (Ak 11 .skip (Ad [oP 14 (Al 3 7),Ac 11 14] (Ak 11 .skip (Bo [oP 15 (Al 3 9),Ac 11 15]))))))) (Ak 11 (Ad [oP 2 (.mv (cI 5))] .ret) (.seq (Ad [oP 17 (Al 3 4),Ac 16 17] (Ak 16 .skip (Ad [oP 18 (Al 3 12),Ac 16 18] (Ak 16 .skip (Ad [oP 19 (Al 3 13),Ac 16 19] (Ak 16 .skip (Ad [oP 20 (Al 3 14),Ac 16 20] (Ak 16 .skip (Bo [oP 21 (Al 3 21),Ac 16 21]))))))))) (Ak 16 (Ad [oP 2 (.mv (cI 6))] .ret) (.seq (Ad [oP 23 (Al 3 15),Ac 22 23] (Ak 22 .skip (Ad [oP 24 (Al 3 18),Ac 22 24] (Ak 22 .skip (Ad [oP 25 (Al 3 19),Ac 22 25] (Ak 22 .skip (Bo [oP 26 (Al 3 20),Ac 22 26]))))))) (Ak 22 (Ad [oP 2 (.mv (cI 9))] .ret) (.seq (Ad [oP 28 (Al 3 16),Ac 27 28] (Ak 27 .skip (Bo [oP 29 (Al 3 17),Ac 27 29]))) (Ak 27 (Ad [oP 2 (.mv (cI 12))] .ret) .skip)))))))))))) (Ad [oP 2 (.mv (cI (-1)))] .ret)))⟩
def tr130:trF Tryz.prog Tryz.f130=some af130:=by kernel_rfl
attribute [go_sem] af130
def af131:AF:=⟨9,[(.t 2)],(Ad [oP 2 (.mv (cB false))] (Ad [Ac 3 0,oP 4 (Bi .geq 3 0),Ac 5 4,oG 6 5 true 0 (mT 0),oG 7 5 true 0 (Bi .leq 6 1000),oP 8 (Bv 5 7),Ac 2 8] .ret))⟩
def tr131:trF Tryz.prog Tryz.f131=some af131:=by kernel_rfl
attribute [go_sem] af131
def af27:AF:=⟨41,[(.t 2)],(Ad [oP 1 (.box (.t 0)),oP 2 (.mv (cB false))] (.seq (Ad [oP 4 (Af 0 1),oP 5 (Ag 4),oP 6 (Bi .neq 5 1),Ac 7 6,oG 8 7 true 0 (Af 0 1),oG 9 7 true 0 (Ag 8),oG 10 7 true 0 (Bi .neq 9 2),oP 11 (Bv 7 10),Ac 12 11,oG 13 12 true 0 (Af 0 1),oG 14 12 true 0 (Ag 13),oG 15 12 true 0 (Bi .lss 14 13),oG 16 12 true 0 (mT 15),oG 17 16 false 0 (Af 0 1),oG 18 16 false 0 (Ag 17),oG 19 16 false 0 (Bi .gtr 18 23),oG 20 12 true 0 (Cx 16 19),oP 21 (Bv 12 20),Ac 22 21,oG 23 22 false 0 (Ao 5 1),oG 24 22 false 0 (.call 59 [(.t 23)]),oG 25 22 false 0 (.un .not (.t 24)),oP 26 (Cx 22 25)] (Ak 26 (Ad [oP 2 (.mv (cB false))] .ret) .skip)) (.seq (Ad [oP 3 (.mv (cI 0))] (.blk 0 (.loop (.seq (Ad [Ac 27 3,oP 28 (Af 4 1),oP 29 (Ag 28),oP 30 (.len false (.t 29)),oP 31 (Bu .lss 27 30)] (Em 31 0)) (.seq (.blk 1 (Ad [oP 34 (Af 4 1),oP 35 (Ag 34),Ac 36 3,oP 37 (.iad 5 (.t 35) (.t 36)),oP 38 (Ao 5 37),oP 39 (.call 27 [(.t 38)]),oP 40 (.un .not (.t 39))] (Ak 40 (Ad [oP 2 (.mv (cB false))] .ret) .skip))) (Bo [Ac 32 3,oP 33 (Bi .add 32 1),Ac 3 33])))))) (Ad [oP 2 (.mv (cB true))] .ret))))⟩
def tr27:trF Tryz.prog Tryz.f27=some af27:=by kernel_rfl
attribute [go_sem] af27
def af59:AF:=⟨16,[(.t 2)],(Ad [oP 1 (.box (.t 0)),oP 2 (.mv (cB false))] (Cs [oP 3 (Af 4 1),⟨(some 4),(Ag 3),none,1,true,[]⟩,oI 5 2 (.len false (.t 4)),oI 6 3 (Af 0 1),oI 7 4 (Ag 6),oI 8 5 (Af 3 1),oI 9 6 (Ag 8),⟨(some 10),(.call 92 [(.t 7),(.t 9)]),none,7,false,[1]⟩,oI 11 8 (Bu .eql 5 10),oI 12 9 (mT 11),oG 13 12 true 10 (Ao 5 1),oG 14 12 true 11 (.call 93 [(.t 13)]),oI 15 12 (Bv 12 14),oI 2 13 (mT 15)] .ret))⟩
def tr59:trF Tryz.prog Tryz.f59=some af59:=by kernel_rfl
attribute [go_sem] af59
def af92:AF:=⟨51,[(.t 4)],(Ad [oP 4 (.mv (cI 0))] (.seq (Ad [Ac 6 0] (.blk 0 (.seq (Ad [oP 8 (Al 6 1),Ac 7 8] (Ak 7 .skip (Bo [oP 9 (Al 6 2),Ac 7 9]))) (Ak 7 (Ad [oP 4 (.mv (cI 0))] .ret) (.seq (Ad [oP 11 (Al 6 18),Ac 10 11] (Ak 10 .skip (Bo [oP 12 (Al 6 19),Ac 10 12]))) (Ak 10 (Ad [oP 4 (.mv (cI 1))] .ret) (.seq (Ad [oP 14 (Al 6 3),Ac 13 14] (Ak 13 .skip (Ad [oP 15 (Al 6 6),Ac 13 15] (Ak 13 .skip (Ad [oP 16 (Al 6 13),Ac 13 16] (Ak 13 .skip (Ad [oP 17 (Al 6 14),Ac 13 17] (Ak 13 .skip (Ad [oP 18 (Al 6 15),Ac 13 18] (Ak 13 .skip (Ad [oP 19 (Al 6 16),Ac 13 19] (Ak 13 .skip (Ad [oP 20 (Al 6 21),Ac 13 20] (Ak 13 .skip (Bo [oP 21 (Al 6 11),Ac 13 21]))))))))))))))) (Ak 13 (Ad [oP 4 (.mv (cI 2))] .ret) (.seq (Ad [oP 23 (Al 6 4),Ac 22 23] (Ak 22 .skip (Ad [oP 24 (Al 6 8),Ac 22 24] (Ak 22 .skip (Ad [oP 25 (Al 6 9),Ac 22 25] (Ak 22 .skip (Ad [oP 26 (Al 6 10),Ac 22 26] (Ak 22 .skip (Bo [oP 27 (Al 6 20),Ac 22 27]))))))))) (Ak 22 (Ad [oP 4 (.mv (cI 3))] .ret) (.seq (Ad [oP 29 (Al 6 5),Ac 28 29] (Ak 28 .skip (Ad [oP 30 (Al 6 7),Ac 28 30] (Ak 28 .skip (Ad [oP 31 (Al 6 12),Ac 28 31] (Ak 28 .skip (Bo [oP 32 (Al 6 17),Ac 28 32]))))))) (Ak 28 (Ad [oP 4 (.mv (cI 4))] .ret) (Ad [oP 34 (Al 6 22),Ac 33 34] (Ak 33 (Ad [oP 4 (.mv (cI 6))] .ret) (Ad [oP 36 (Al 6 23),Ac 35 36] (Ak 35 (Ad [oP 37 (.bslice 1 [(cI 5),(cI 5),(cI 4),(cI 6),(cI 4),(cI 4),(cI 5),(cI 4),(cI 5),(cI 4),(cI 4),(cI 6),(cI 6),(cI 6),(cI 9),(cI 12),(cI 12),(cI 9),(cI 9),(cI 9),(cI 6)]),Ac 5 37] (Ad [Ac 38 1,oP 39 (Bi .geq 38 1),Ac 40 39,oG 41 40 true 0 (mT 1),oG 42 40 true 0 (mT 5),oG 43 40 true 0 (.len false (.t 42)),oG 44 40 true 0 (Bu .leq 41 43),oP 45 (Bv 40 44)] (Ak 45 (Ad [Ac 46 5,Ac 47 1,oP 48 (Bi .sub 47 1),oP 49 (.iad 1 (.t 46) (.t 48)),oP 50 (Ag 49),Ac 4 50] .ret) .skip))) .skip)))))))))))))))) (Ad [oP 4 (.mv (cI (-1)))] .ret)))⟩
def tr92:trF Tryz.prog Tryz.f92=some af92:=by kernel_rfl
attribute [go_sem] af92
def af93:AF:=⟨87,[(.t 2)],(Ad [oP 1 (.box (.t 0)),oP 2 (.mv (cB false))] (.seq (Ad [oP 3 (Af 0 1),oP 4 (Ag 3)] (.blk 0 (Ad [oP 6 (Al 4 2),Ac 5 6] (Ak 5 (Ad [oP 7 (Af 1 1),oP 8 (Ag 7),oP 9 (Bi .geq 8 0),Ac 10 9,oG 11 10 true 0 (Af 1 1),oG 12 10 true 0 (Ag 11),oG 13 10 true 0 (Bi .leq 12 2147483647),oP 14 (Bv 10 13),Ac 15 14,oG 16 15 true 0 (Af 2 1),oG 17 15 true 0 (Ag 16),oG 18 15 true 0 (Al 17 0),oP 19 (Bv 15 18),Ac 20 19,oG 21 20 true 0 (Af 3 1),oG 22 20 true 0 (Ag 21),oG 23 20 true 0 (Al 22 0),oP 24 (Bv 20 23),Ac 2 24] .ret) (.seq (Ad [oP 26 (Al 4 3),Ac 25 26] (Ak 25 .skip (Ad [oP 27 (Al 4 4),Ac 25 27] (Ak 25 .skip (Ad [oP 28 (Al 4 5),Ac 25 28] (Ak 25 .skip (Ad [oP 29 (Al 4 6),Ac 25 29] (Ak 25 .skip (Ad [oP 30 (Al 4 7),Ac 25 30] (Ak 25 .skip (Ad [oP 31 (Al 4 8),Ac 25 31] (Ak 25 .skip (Bo [oP 32 (Al 4 9),Ac 25 32]))))))))))))) (Ak 25 (Ad [oP 33 (Af 1 1),oP 34 (Ag 33),oP 35 (.call 132 [(.t 34)]),Ac 36 35,oG 37 36 true 0 (Af 2 1),oG 38 36 true 0 (Ag 37),oG 39 36 true 0 (.call 132 [(.t 38)]),oP 40 (Bv 36 39),Ac 41 40,oG 42 41 true 0 (Af 3 1),oG 43 41 true 0 (Ag 42),oG 44 41 true 0 (Al 43 0),oP 45 (Bv 41 44),Ac 2 45] .ret) (.seq (Ad [oP 47 (Al 4 1),Ac 46 47] (Ak 46 .skip (Ad [oP 48 (Al 4 10),Ac 46 48] (Ak 46 .skip (Ad [oP 49 (Al 4 11),Ac 46 49] (Ak 46 .skip (Bo [oP 50 (Al 4 12),Ac 46 50]))))))) (Ak 46 (Ad [oP 51 (Af 1 1),oP 52 (Ag 51),oP 53 (.call 132 [(.t 52)]),Ac 54 53,oG 55 54 true 0 (Af 2 1),oG 56 54 true 0 (Ag 55),oG 57 54 true 0 (Al 56 0),oP 58 (Bv 54 57),Ac 59 58,oG 60 59 true 0 (Af 3 1),oG 61 59 true 0 (Ag 60),oG 62 59 true 0 (Al 61 0),oP 63 (Bv 59 62),Ac 2 63] .ret) (Ad [oP 65 (Al 4 23),Ac 64 65] (Ak 64 (Ad [oP 66 (Af 1 1),oP 67 (Ag 66),oP 68 (.call 132 [(.t 67)]),Ac 69 68,oG 70 69 true 0 (Af 2 1),oG 71 69 true 0 (Ag 70),oG 72 69 true 0 (.call 132 [(.t 71)]),oP 73 (Bv 69 72),Ac 2 73] .ret) .skip)))))))))) (Ad [oP 74 (Af 1 1),oP 75 (Ag 74),oP 76 (Al 75 0),Ac 77 76,oG 78 77 true 0 (Af 2 1),oG 79 77 true 0 (Ag 78),oG 80 77 true 0 (Al 79 0),oP 81 (Bv 77 80),Ac 82 81,oG 83 82 true 0 (Af 3 1),oG 84 82 true 0 (Ag 83),oG 85 82 true 0 (Al 84 0),oP 86 (Bv 82 85),Ac 2 86] .ret)))⟩
def tr93:trF Tryz.prog Tryz.f93=some af93:=by kernel_rfl
attribute [go_sem] af93
def af132:AF:=⟨9,[(.t 2)],(Ad [oP 2 (.mv (cB false))] (Ad [Ac 3 0,oP 4 (Bi .geq 3 0),Ac 5 4,oG 6 5 true 0 (mT 0),oG 7 5 true 0 (Bi .leq 6 1000),oP 8 (Bv 5 7),Ac 2 8] .ret))⟩
def tr132:trF Tryz.prog Tryz.f132=some af132:=by kernel_rfl
attribute [go_sem] af132
def af20:AF:=⟨5,[(.t 2)],(Ad [oP 1 (.box (.t 0)),oP 2 (.mv (cB false))] (Ad [oP 3 (Ao 5 1),oP 4 (.call 56 [(.t 3),(cI 1)]),Ac 2 4] .ret))⟩
def tr20:trF Tryz.prog Tryz.f20=some af20:=by kernel_rfl
attribute [go_sem] af20
def af55:AF:=⟨8,[(.t 2)],(Ad [oP 1 (.box (.t 0)),oP 2 (.mv (cI 0))] (.seq (Ad [oP 3 (Ao 5 1),oP 4 (.call 64 [(.t 3)]),oP 5 (.un .not (.t 4))] (Ak 5 (Ad [oP 2 (.mv (cI 0))] .ret) .skip)) (Ad [oP 6 (Ao 5 1),oP 7 (.call 88 [(.t 6),(cI 0)]),Ac 2 7] .ret)))⟩
def tr55:trF Tryz.prog Tryz.f55=some af55:=by kernel_rfl
attribute [go_sem] af55
def af88:AF:=⟨37,[(.t 4)],(Ad [oP 2 (.box (.t 0)),oP 4 (.mv (cI 0))] (.seq (Ad [oP 8 (Af 0 2),oP 9 (Ag 8),oP 10 (Al 9 2)] (Ak 10 (Ad [oP 11 (Af 1 2),oP 12 (Ag 11),oP 13 (Bi .add 12 1),Ac 14 1,oP 15 (Bu .sub 13 14),oP 16 (.mnx true (.t 15) (cI 0)),Ac 4 16] .ret) .skip)) (Ad [oP 5 (.mv (cI 0))] (.seq (Ad [oP 17 (Af 4 2),oP 18 (Ag 17),oP 19 (.len false (.t 18)),oP 20 (.mv (cI 0))] (.blk 0 (.loop (Ad [oP 21 (Bu .lss 20 19)] (.seq (Em 21 0) (.seq (.blk 1 (Ad [Ac 22 20,oP 23 (.iad 5 (.t 18) (.t 20)),oP 24 (Ao 5 23),oP 7 Fe,Ac 6 22,oN (Bn 5 7 24)] (.reg [Ac 25 5,⟨(some 26),(Ao 5 7),none,1,true,[]⟩,oI 27 2 (mT 1),oI 28 3 (Af 0 2),oI 29 4 (Ag 28),oI 30 5 (mT 6),⟨(some 31),(.call 99 [(.t 29),(.t 30)]),none,6,false,[1]⟩,oI 32 7 (Bu .add 27 31),oI 33 8 (.call 88 [(.t 26),(.t 32)]),oI 34 9 (.mnx true (.t 25) (.t 33)),oI 5 10 (mT 34)] true))) (Bo [oP 35 (Bi .add 20 1),Ac 20 35]))))))) (Ad [Ac 36 5,Ac 4 36] .ret)))))⟩
def tr88:trF Tryz.prog Tryz.f88=some af88:=by kernel_rfl
attribute [go_sem] af88
def af64:AF:=⟨5,[(.t 2)],(Ad [oP 1 (.box (.t 0)),oP 2 (.mv (cB false))] (Ad [oP 3 (Ao 5 1),oP 4 (.call 56 [(.t 3),(cI 0)]),Ac 2 4] .ret))⟩
def tr64:trF Tryz.prog Tryz.f64=some af64:=by kernel_rfl
attribute [go_sem] af64
def af22:AF:=⟨60,[(.t 4)],(Ad [oP 2 (.box (.t 0)),oP 3 (.box (.t 1)),oP 4 (.mv (cB false))] (.seq (Ad [oP 6 (Af 0 2),oP 7 (Ag 6),oP 8 (Af 0 3),oP 9 (Ag 8),oP 10 (Bu .neq 7 9),Ac 11 10,oG 12 11 false 0 (Af 1 2),oG 13 11 false 0 (Ag 12),oG 14 11 false 0 (Af 1 3),oG 15 11 false 0 (Ag 14),oG 16 11 false 0 (Bu .neq 13 15),oP 17 (Cx 11 16),Ac 18 17,oG 19 18 false 0 (Af 2 2),oG 20 18 false 0 (Ag 19),oG 21 18 false 0 (Af 2 3),oG 22 18 false 0 (Ag 21),oG 23 18 false 0 (Bu .neq 20 22),oP 24 (Cx 18 23),Ac 25 24,oG 26 25 false 0 (Af 3 2),oG 27 25 false 0 (Ag 26),oG 28 25 false 0 (Af 3 3),oG 29 25 false 0 (Ag 28),oG 30 25 false 0 (Bu .neq 27 29),oP 31 (Cx 25 30),Ac 32 31,oG 33 32 false 0 (Af 4 2),oG 34 32 false 0 (Ag 33),oG 35 32 false 0 (.len false (.t 34)),oG 36 32 false 0 (Af 4 3),oG 37 32 false 0 (Ag 36),oG 38 32 false 0 (.len false (.t 37)),oG 39 32 false 0 (Bu .neq 35 38),oP 40 (Cx 32 39)] (Ak 40 (Ad [oP 4 (.mv (cB false))] .ret) .skip)) (.seq (Ad [oP 41 (Af 4 2),oP 42 (Ag 41),oP 43 (.len false (.t 42)),oP 44 (.mv (cI 0))] (.blk 0 (.loop (Ad [oP 45 (Bu .lss 44 43)] (.seq (Em 45 0) (.seq (.blk 1 (Ad [Ac 46 44,Ac 5 46] (Cs [oP 47 (Af 4 2),oI 48 1 (Ag 47),oI 49 2 (mT 5),oI 50 3 (.iad 5 (.t 48) (.t 49)),oI 51 4 (Ao 5 50),oI 52 5 (Af 4 3),oI 53 6 (Ag 52),oI 54 7 (mT 5),oI 55 8 (.iad 5 (.t 53) (.t 54)),oI 56 9 (Ao 5 55),oI 57 10 (.call 22 [(.t 51),(.t 56)]),oI 58 11 (.un .not (.t 57))] (Ak 58 (Ad [oP 4 (.mv (cB false))] .ret) .skip)))) (Bo [oP 59 (Bi .add 44 1),Ac 44 59]))))))) (Ad [oP 4 (.mv (cB true))] .ret))))⟩
def tr22:trF Tryz.prog Tryz.f22=some af22:=by kernel_rfl
attribute [go_sem] af22
def af99:AF:=⟨31,[(.t 4)],(Ad [oP 4 (.mv (cI 0))] (.seq (Ad [Ac 5 0] (.blk 0 (.seq (Ad [oP 7 (Al 5 3),Ac 6 7] (Ak 6 .skip (Ad [oP 8 (Al 5 5),Ac 6 8] (Ak 6 .skip (Ad [oP 9 (Al 5 6),Ac 6 9] (Ak 6 .skip (Ad [oP 10 (Al 5 7),Ac 6 10] (Ak 6 .skip (Ad [oP 11 (Al 5 8),Ac 6 11] (Ak 6 .skip (Ad [oP 12 (Al 5 9),Ac 6 12] (Ak 6 .skip (Ad [oP 13 (Al 5 13),Ac 6 13] (Ak 6 .skip (Ad [oP 14 (Al 5 14),Ac 6 14] (Ak 6 .skip (Ad [oP 15 (Al 5 16),Ac 6 15] (Ak 6 .skip (Bo [oP 16 (Al 5 17),Ac 6 16]))))))))))))))))))) (Ak 6 (Ad [Ac 17 1,oP 18 (Al 17 1)] (Ak 18 (Ad [oP 4 (.mv (cI 1))] .ret) .skip)) (Ad [oP 20 (Al 5 4),Ac 19 20] (Ak 19 (Ad [Ac 21 1,oP 22 (Al 21 1),Ac 23 22,oG 24 23 false 0 (mT 1),oG 25 23 false 0 (Al 24 2),oP 26 (Cx 23 25)] (Ak 26 (Ad [oP 4 (.mv (cI 1))] .ret) .skip)) (Ad [oP 28 (Al 5 22),Ac 27 28] (Ak 27 (Ad [Ac 29 1,oP 30 (Al 29 2)] (Ak 30 (Ad [oP 4 (.mv (cI 2))] .ret) .skip)) .skip)))))))) (Ad [oP 4 (.mv (cI 0))] .ret)))⟩
def tr99:trF Tryz.prog Tryz.f99=some af99:=by kernel_rfl
attribute [go_sem] af99
end Go.Proofs.YtgfehkhcmnfpaaaGreatDoor.Abs
