import Derived.Test.YtgfehkhcmnfpaaaGreatDoorXTs
import Derived.Lib.ItoaNum
import Derived.Test.YtgfehkhcmnfpaaaGreatDoorXEv
import Derived.Test.YtgfehkhcmnfpaaaGreatDoorProg
import Derived.KernelRfl
import Derived.Ground.NamesProg
import Derived.Shelf.LaysM
import Derived.Shelf.Strconv.Itoa3
import Derived.Lib.AppendIntMem
set_option linter.all false
set_option maxRecDepth 20000
set_option maxHeartbeats 4000000
namespace Go.Proofs.YtgfehkhcmnfpaaaGreatDoor.Abs
open Go Go.RowKit
def skF:Bool->By->Nat
 |_,[]=>0
 |true,c::r=>if c.toNat=10 then skF false r+1 else skF true r+1
 |false,c::r=>if c.toNat=32\/c.toNat=9\/c.toNat=10 then skF false r+1 else if c.toNat=59 then skF true r+1 else 0
def Au6:∀(s:By) (b:Bool),skF b s<=s.length:=by
 intro s
 induction s with
 |nil=>intro b;cases b<;>simp[skF]
 |cons c r ih=>
  intro b;have h1:=ih true;have h2:=ih false;cases b<;>simp only[skF,q_jk]<;>(repeat' split)<;>omega
def Ih(c:UInt8):Bool:=Hz c.toNat
def Ge(w:By):Nat:=w.foldl (fun n c=>10*n+(c.toNat-48)) 0
def Eg(w:By):Option Nat:=
 if w.length=0\/7<w.length then none
 else if w.all Ih then (if 1000000<Ge w\/Lib.itoa (Ge w:Nat)≠w then none else some (Ge w)) else none
def Cd(p:Nat):By->Tok×Bool
 |[]=>(⟨0,[],0⟩,false)
 |c::r=>
  if c.toNat=40 then (⟨1,[40],p⟩,true)
  else if c.toNat=41 then (⟨2,[41],p⟩,true)
  else if Lh c.toNat then (⟨3,c::r.takeWhile Zn,p⟩,decide ((r.takeWhile Zn).length<20))
  else if Hz c.toNat then (⟨4,c::r.takeWhile Ih,p⟩,(Eg (c::r.takeWhile Ih)).isSome && (match r.dropWhile Ih with|[]=>true|d::_=>!Lh d.toNat))
  else (⟨0,[],0⟩,false)
def Tb:Nat->Nat->By->List Tok×Option Nat
 |0,_,_=>([],none)
 |f+1,p,s=>
  match s.drop (skF false s) with
  |[]=>([],none)
  |s'=>if (Cd (p+skF false s) s').2 then
    ((Cd (p+skF false s) s').1::(Tb f (p+skF false s+(Cd (p+skF false s) s').1.w.length) (s'.drop (Cd (p+skF false s) s').1.w.length)).1,(Tb f (p+skF false s+(Cd (p+skF false s) s').1.w.length) (s'.drop (Cd (p+skF false s) s').1.w.length)).2)
   else ([],some (p+skF false s))
def Bs(l:By):List Tok×Option Nat:=Tb (l.length+1) 0 l
structure RC where
 L:List Tok
 e:Nat
 i:Nat
 j:Nat
structure RS where
 k:Nat
 bad:Bool
 at_:Nat
 D:GV
def RC.tk(c:RC)(k:Nat):Tok:=c.L.getD k ⟨0,[],0⟩
def Cu(c:RC)(s:RS)(k:Nat):RS:=if s.bad then s else { s with bad:=true,at_:=if k<c.L.length then (c.tk k).p else c.e }
def RS.nx(s:RS):RS:={ s with k:=s.k+1 }
def Ai(c:RC)(s:RS)(kd:Nat):By×RS:=if s.bad=false/\s.k<c.L.length/\(c.tk s.k).k=kd then ((c.tk s.k).w,s.nx) else ([],Cu c s s.k)
def Ie(c:RC)(lev:RS->Nat×RS)(s:RS):Nat×RS:=
 let q:Nat×RS:=
  if s.k<c.L.length/\(c.tk s.k).k=3/\(c.tk s.k).w=[115,117,99] then ((lev s.nx).1+1,(lev s.nx).2)
  else if s.k<c.L.length/\(c.tk s.k).k=3/\(c.tk s.k).w=[109,97,120] then (max (lev s.nx).1 (lev (lev s.nx).2).1,(lev (lev s.nx).2).2)
  else (0,Cu c s s.k)
 (q.1,(Ai c q.2 2).2)
def Cn(c:RC):Nat->RS->Nat×RS
 |0,s=>(0,s)
 |f+1,s=>
  if s.bad=false/\s.k<c.L.length then
   let q:Nat×RS:=
    if (c.tk s.k).k=4 then ((Eg (c.tk s.k).w).getD 0,s.nx)
    else if (c.tk s.k).k=3/\(c.tk s.k).w=[105] then (c.i,s.nx)
    else if (c.tk s.k).k=3/\(c.tk s.k).w=[106] then (c.j,s.nx)
    else if (c.tk s.k).k=1 then Ie c (Cn c f) s.nx
    else (0,Cu c s s.k)
   (q.1,if q.2.bad=false/\1000<q.1 then Cu c q.2 s.k else q.2)
  else (0,Cu c s s.k)
def zR:Tm:=.mk 0 0 0 0 []
def Jn(c:RC)(ns:List By)(s:RS):Tm×RS:=
 match Fy (c.tk s.k).w ns with
 |some n=>(.mk 2 n 0 0 [],s.nx)
 |none=>(zR,Cu c s s.k)
def formsG:List (By×Nat×By):=
 [([115,111,114,116],1,[76]),([112,105],3,[76,77,120,116,98]),([108,97,109],4,[76,77,120,116,98,98]),([97,112,112],5,[76,77,120,116,98,116,116]),([115,105,103],6,[76,77,120,116,98]),([112,97,105,114],7,[76,77,120,116,98,116,116]),([102,115,116],8,[76,77,120,116,98,116]),([115,110,100],9,[76,77,120,116,98,116]),([101,113],10,[76,116,116,116]),([114,101,102,108],11,[76,116,116]),([116,114],12,[76,116,116,112,116]),([80,105],13,[120,116,98]),([76,97,109],14,[120,116,98]),([65,112,112],15,[116,116]),([83,105,103],16,[120,116,98]),([80,97,105,114],17,[120,116,98,116,116]),([70,115,116],18,[116]),([83,110,100],19,[116]),([69,113],20,[116,116,116]),([82,101,102,108],21,[116,116]),([74],22,[116,116,121,101,80,116,116,116]),([117,115,101],23,[83,76,77])]
def Kv(w:By):Nat×By:=(Jw w formsG).getD (0,[])
structure AccR where
 a:Nat:=0
 b:Nat:=0
 n:Nat:=0
 bd:List By:=[]
 l:List Tm:=[]
abbrev TR:=List By->Nat->RS->Tm×RS
def Fo(T:TR)(ns:List By):Nat->RS->List Tm×RS
 |0,s=>([],s)
 |m+1,s=>((T ns 2 s).1::(Fo T ns m (T ns 2 s).2).1,(Fo T ns m (T ns 2 s).2).2)
def ofR(k:Nat):Nat:=if k<=12 then 1 else 2
def Ds(c:RC)(T:TR)(ns:List By)(k:Nat)(ch:UInt8)(x:AccR)(s:RS):AccR×RS:=
 if ch.toNat=76 then ({ x with a:=(Cn c (c.L.length+1) s).1 },(Cn c (c.L.length+1) s).2)
 else if ch.toNat=77 then
  (if k=23 then
   let q:=Cn c (c.L.length+1) s
   let r:=Fo T ns (arN x.n) { q.2 with D:=[] }
   ({ x with b:=q.1,l:=r.1 },{ r.2 with D:=s.D++[.int .i64 23,.int .i64 x.a,.int .i64 q.1,.int .i64 x.n,.dsl 5 (r.1.map tv)]::r.2.D })
  else ({ x with b:=(Cn c (c.L.length+1) s).1 },(Cn c (c.L.length+1) s).2))
 else if ch.toNat=83 then
  (let q:=Ai c s 3
   match Fy q.1 symsL with
    |some n=>({ x with n:=n+1 },q.2)
    |none=>(x,Cu c q.2 (q.2.k-1)))
 else if ch.toNat=120\/ch.toNat=121\/ch.toNat=101 then ({ x with bd:=(Ai c s 3).1::x.bd },(Ai c s 3).2)
 else if ch.toNat=116 then ({ x with l:=x.l++[(T ns (ofR k) s).1] },(T ns (ofR k) s).2)
 else if ch.toNat=112 then ({ x with l:=x.l++[(T ns 2 s).1] },(T ns 2 s).2)
 else ({ x with l:=x.l++[(T (x.bd++ns) (ofR k) s).1] },(T (x.bd++ns) (ofR k) s).2)
def Ea(c:RC)(T:TR)(ns:List By)(k:Nat):By->AccR->RS->AccR×RS
 |[],x,s=>(x,s)
 |ch::r,x,s=>if s.bad then (x,s) else Ea c T ns k r (Ds c T ns k ch x s).1 (Ds c T ns k ch x s).2
def AccR.tm(k:Nat)(x:AccR):Tm:=.mk k x.a x.b x.n x.l
def Ae(c:RC)(T:TR)(ns:List By)(k:Nat)(sh:By)(s:RS):Tm×RS:=
 ((Ea c T ns k sh {} s).1.tm k,(Ai c (Ea c T ns k sh {} s).2 2).2)
def En(c:RC):Nat->TR
 |0,_,_,s=>(zR,s)
 |f+1,ns,want,s=>
  if s.bad then (zR,s)
  else if ¬s.k<c.L.length then (zR,Cu c s s.k)
  else if (c.tk s.k).k=3 then Jn c ns s
  else
   let s1:=(Ai c s 1).2
   let q:=Ai c s1 3
   let g:=Kv q.1
   if q.2.bad then (zR,q.2)
   else if g.1=0\/(want=1/\12<g.1)\/(want=2/\2<g.1/\g.1<=12) then (zR,Cu c q.2 s1.k)
   else Ae c (En c f) ns g.1 g.2 q.2
def De(l:By):List Tok:=match Bs l with
 |(ts,none)=>ts
 |(_,some _)=>[]
def rcR(tx:By)(i j:Nat):RC:=match (Bs tx).2 with
 |none=>⟨De tx,tx.length,i,j⟩
 |some p=>⟨De (tx.take p),p,i,j⟩
def Gn(tx:By)(ns:List By)(i j:Nat):Tm×Option Nat:=
 let c:=rcR tx i j
 let q:=En c (c.L.length+1) ns 0 ⟨0,false,0,[]⟩
 let s:=if q.2.bad=false/\(q.2.k<c.L.length\/(Bs tx).2.isSome) then Cu c q.2 q.2.k else q.2
 if s.bad then (zR,some s.at_) else (q.1,none)
structure QC where
 tx:By
 L:List Tok
 e:Nat
structure QS where
 k:Nat
 bad:Bool
 at_:Nat
def QC.tk(c:QC)(k:Nat):Tok:=c.L.getD k ⟨0,[],0⟩
def Fu(s:QS)(p:Nat):QS:=if s.bad then s else { s with bad:=true,at_:=p }
def Dv(c:QC)(s:QS)(k:Nat):QS:=Fu s (if k<c.L.length then (c.tk k).p else c.e)
def isQ(c:QC)(s:QS)(kd:Nat):Bool:=decide (s.k<c.L.length) && decide ((c.tk s.k).k=kd)
def Bu(c:QC)(s:QS)(kd:Nat):By×QS:=if s.bad=false/\isQ c s kd=true then ((c.tk s.k).w,{ s with k:=s.k+1 }) else ([],Dv c s s.k)
def Dk(c:QC)(s:QS):Nat×QS:=((Eg (Bu c s 4).1).getD 0,if 1000<(Eg (Bu c s 4).1).getD 0 then Dv c (Bu c s 4).2 ((Bu c s 4).2.k-1) else (Bu c s 4).2)
def Aa8:List By:=[[112,105],[108,97,109],[97,112,112],[115,105,103],[112,97,105,114],[102,115,116],[115,110,100],[101,113],[114,101,102,108],[116,114]]
def Abj:List By:=[[80,105],[76,97,109],[65,112,112],[83,105,103],[80,97,105,114],[70,115,116],[83,110,100],[69,113],[82,101,102,108],[74],[117,115,101]]
def Pm(w:By)(pl:Bool):Bool:=if w∈Aa8 then pl else if w∈Abj then !pl else false
def Oe:List Tok->Nat->Nat->Option Nat
 |[],_,_=>none
 |t::r,i,d=>if (if t.k=1 then d+1 else if t.k=2 then d-1 else d)=0 then some (i+1) else Oe r (i+1) (if t.k=1 then d+1 else if t.k=2 then d-1 else d)
def Hc(c:QC)(k:Nat):Option Nat:=Oe (c.L.drop k) k 0
def Ff(n:Nat):List By:=((List.range n).map fun i=>118::Lib.itoa (i:Nat)).reverse
def Du(c:QC)(k:Nat):Nat:=match Hc c k with
 |some q=>(c.tk (q-1)).p+(c.tk (q-1)).w.length
 |none=>c.tx.length
def Bw(c:QC)(n:Nat)(pl:Bool)(s:QS):Tm×QS:=
 if s.bad=false/\s.k<c.L.length then
  if (c.tk s.k).k=1/\s.k+1<c.L.length/\(c.tk (s.k+1)).k=3/\Pm (c.tk (s.k+1)).w pl=true then (zR,Dv c s (s.k+1))
  else match (Gn ((c.tx.drop (c.tk s.k).p).take (Du c s.k-(c.tk s.k).p)) (Ff n) 0 0) with
   |(t,none)=>(t,{ s with k:=(Hc c s.k).getD 0 })
   |(_,some p)=>(zR,Fu s ((c.tk s.k).p+p))
 else (zR,Dv c s s.k)
def Ep(c:QC):Nat->List (Tm×Nat)->QS->List (Tm×Nat)×QS
 |0,es,s=>(es,s)
 |f+1,es,s=>if s.bad=false/\isQ c s 2=false then Ep c f (es++[((Bw c es.length false (Dk c s).2).1,(Dk c s).1)]) (Bw c es.length false (Dk c s).2).2 else (es,s)
structure XQ where
 ctx:List (Tm×Nat)
 eq:Bool
 i:Nat
 a:Tm
 u:Tm
 b:Tm
 v:Tm
 h:Tm
def Ky(c:QC)(s:QS):Bool×QS:=(decide ((Bu c s 3).1=[101,113,117,97,108]),if (Bu c s 3).1=[116,101,114,109]\/(Bu c s 3).1=[101,113,117,97,108] then (Bu c s 3).2 else Dv c (Bu c s 3).2 ((Bu c s 3).2.k-1))
def Ju(c:QC)(s:QS):XQ×QS:=
 let hd:=Ky c s
 let e:=Ep c (c.L.length+1) [] (Bu c hd.2 1).2
 let l:=Dk c (Bu c e.2 2).2
 let n:=e.1.length
 let t1:=Bw c n false l.2
 let t2:=Bw c n false t1.2
 if hd.1=false then (⟨e.1,false,l.1,t2.1,t1.1,zR,zR,zR⟩,t2.2)
 else
  let t3:=Bw c n false t2.2
  let t4:=Bw c n false t3.2
  let t5:=Bw c n true t4.2
  (⟨e.1,true,l.1,t1.1,t2.1,t3.1,t4.1,t5.1⟩,t5.2)
def qcR(tx:By):QC:=match (Bs tx).2 with
 |none=>⟨tx,De tx,tx.length⟩
 |some p=>⟨tx,De (tx.take p),p⟩
def Pn(tx:By):XQ×Option Nat:=
 let c:=qcR tx
 let b:=Ju c (Bu c ⟨0,false,0⟩ 1).2
 let s:=(Bu c b.2 2).2
 let s2:=if s.bad=false/\(s.k<c.L.length\/(Bs tx).2.isSome) then Dv c s s.k else s
 (b.1,if s2.bad then some s2.at_ else none)
open Go Go.Proofs Go.Proofs.YtgfehkhcmnfpaaaGreatDoor
def af120:AF:=⟨17,[(.t 2)],(Ab [oP 2 (.mv (cB false))] (Ab [Aa 3 0,oP 4 (.bin 0 .leq (.c (.int .u8 97)) (.t 3)),Aa 5 4,oG 6 5 true 0 (mT 0),oG 7 5 true 0 (.bin 0 .leq (.t 6) (.c (.int .u8 122))),oP 8 (Cf 5 7),Aa 9 8,oG 10 9 false 0 (mT 0),oG 11 9 false 0 (.bin 0 .leq (.c (.int .u8 65)) (.t 10)),oG 12 9 false 0 (mT 11),oG 13 12 true 0 (mT 0),oG 14 12 true 0 (.bin 0 .leq (.t 13) (.c (.int .u8 90))),oG 15 9 false 0 (Cf 12 14),oP 16 (Db 9 15),Aa 2 16] .ret))⟩
def tr120:trF Tryz.prog Tryz.f120=some af120:=by kernel_rfl
attribute [go_sem] af120
def af121:AF:=⟨9,[(.t 2)],(Ab [oP 2 (.mv (cB false))] (Ab [Aa 3 0,oP 4 (.bin 0 .leq (.c (.int .u8 48)) (.t 3)),Aa 5 4,oG 6 5 true 0 (mT 0),oG 7 5 true 0 (.bin 0 .leq (.t 6) (.c (.int .u8 57))),oP 8 (Cf 5 7),Aa 2 8] .ret))⟩
def tr121:trF Tryz.prog Tryz.f121=some af121:=by kernel_rfl
attribute [go_sem] af121
def af75:AF:=⟨34,[(.t 4)],(Ab [oP 4 (.mv (cI 0))] (.seq (.blk 0 (.loop (.seq (Ab [Aa 5 1,Aa 6 0,oP 7 (.len true (.t 6)),oP 8 (Ch .lss 5 7)] (Ez 8 0)) (.blk 1 (Ab [Aa 9 0,Aa 10 1,oP 11 (.six (.t 9) (.t 10))] (.blk 2 (.seq (Ab [oP 14 (.bin 0 .eql (.t 11) (.c (.int .u8 32))),Aa 13 14] (Ag 13 .skip (Ab [oP 15 (.bin 0 .eql (.t 11) (.c (.int .u8 9))),Aa 13 15] (Ag 13 .skip (Bj [oP 16 (.bin 0 .eql (.t 11) (.c (.int .u8 10))),Aa 13 16]))))) (Ag 13 (Bj [Aa 17 1,oP 18 (Bg .add 17 1),Aa 1 18]) (Ab [oP 20 (.bin 0 .eql (.t 11) (.c (.int .u8 59))),Aa 19 20] (Ag 19 (.blk 3 (.loop (.seq (Ab [Aa 21 1,Aa 22 0,oP 23 (.len true (.t 22)),oP 24 (Ch .lss 21 23),Aa 25 24,oG 26 25 true 0 (mT 0),oG 27 25 true 0 (mT 1),oG 28 25 true 0 (.six (.t 26) (.t 27)),oG 29 25 true 0 (.bin 0 .neq (.t 28) (.c (.int .u8 10))),oP 30 (Cf 25 29)] (Ez 30 3)) (.blk 4 (Bj [Aa 31 1,oP 32 (Bg .add 31 1),Aa 1 32]))))) (Ab [Aa 12 1,Aa 4 12] .ret))))))))))) (Ab [Aa 33 1,Aa 4 33] .ret)))⟩
def tr75:trF Tryz.prog Tryz.f75=some af75:=by kernel_rfl
attribute [go_sem] af75
def af76:AF:=⟨100,[(.cell 4 true 3),(.t 5)],(Ab [oP 4 (.new [(iS 0),(.str (bs [])),(iS 0)]),oP 5 (.mv (cB false))] (Ab [Aa 10 0,Aa 11 1,oP 12 (.six (.t 10) (.t 11)),Aa 13 1,oP 14 (Bg .add 13 1),Aa 6 12,Aa 7 14] (.seq (.blk 0 (Ab [Aa 16 6,oP 17 (.bin 0 .eql (.t 16) (.c (.int .u8 40))),Aa 15 17] (Ag 15 (Ab [Aa 18 1,oP 19 (.build [(iS 0),(.str (bs [])),(iS 0)] [(0,(1,(cI 1))),(1,(1,(Be [40]))),(2,(1,(.t 18)))]),oN (Bd 3 4 19),oP 5 (.mv (cB true))] .ret) (Ab [Aa 21 6,oP 22 (.bin 0 .eql (.t 21) (.c (.int .u8 41))),Aa 20 22] (Ag 20 (Ab [Aa 23 1,oP 24 (.build [(iS 0),(.str (bs [])),(iS 0)] [(0,(1,(cI 2))),(1,(1,(Be [41]))),(2,(1,(.t 23)))]),oN (Bd 3 4 24),oP 5 (.mv (cB true))] .ret) (Ab [Aa 26 6,oP 27 (.call 120 [(.t 26)]),Aa 25 27] (Ag 25 (.seq (.blk 1 (.loop (.seq (Ab [Aa 28 7,Aa 29 0,oP 30 (.len true (.t 29)),oP 31 (Ch .lss 28 30),Aa 32 31,oG 33 32 true 0 (mT 0),oG 34 32 true 0 (mT 7),oG 35 32 true 0 (.six (.t 33) (.t 34)),oG 36 32 true 0 (.call 120 [(.t 35)]),oG 37 32 true 0 (mT 36),oG 38 37 false 0 (mT 0),oG 39 37 false 0 (mT 7),oG 40 37 false 0 (.six (.t 38) (.t 39)),oG 41 37 false 0 (.call 121 [(.t 40)]),oG 42 32 true 0 (Db 37 41),oP 43 (Cf 32 42)] (Ez 43 1)) (.blk 2 (Bj [Aa 44 7,oP 45 (Bg .add 44 1),Aa 7 45]))))) (Ab [Aa 46 0,Aa 47 1,Aa 48 7,oP 49 (.slc 0 (.t 46) (some (.t 47)) (some (.t 48))),Aa 50 1,oP 51 (.build [(iS 0),(.str (bs [])),(iS 0)] [(0,(1,(cI 3))),(1,(1,(.t 49))),(2,(1,(.t 50)))]),Aa 52 7,Aa 53 1,oP 54 (Ch .sub 52 53),oP 55 (Bg .leq 54 20),oN (Bd 3 4 51),Aa 5 55] .ret)) (Ab [Aa 57 6,oP 58 (.call 121 [(.t 57)]),Aa 56 58] (Ag 56 (.seq (.blk 3 (.loop (.seq (Ab [Aa 59 7,Aa 60 0,oP 61 (.len true (.t 60)),oP 62 (Ch .lss 59 61),Aa 63 62,oG 64 63 true 0 (mT 0),oG 65 63 true 0 (mT 7),oG 66 63 true 0 (.six (.t 64) (.t 65)),oG 67 63 true 0 (.call 121 [(.t 66)]),oP 68 (Cf 63 67)] (Ez 68 3)) (.blk 4 (Bj [Aa 69 7,oP 70 (Bg .add 69 1),Aa 7 70]))))) (Ab [Aa 72 0,Aa 73 1,Aa 74 7,oP 75 (.slc 0 (.t 72) (some (.t 73)) (some (.t 74))),oP 76 (.call 122 [(.t 75)]),Aa 71 76,oP 77 (.ext (.t 71) 0),oP 78 (.ext (.t 71) 1),Aa 8 77,Aa 9 78] (Cl [Aa 79 0,oI 80 1 (mT 1),oI 81 2 (mT 7),⟨(some 82),(.slc 0 (.t 79) (some (.t 80)) (some (.t 81))),none,3,true,[]⟩,oI 83 4 (mT 1),oI 84 5 (.build [(iS 0),(.str (bs [])),(iS 0)] [(0,(1,(cI 4))),(1,(1,(.t 82))),(2,(1,(.t 83)))]),oI 85 6 (mT 9),oI 86 7 (mT 85),oG 87 86 true 8 (mT 7),oG 88 86 true 9 (mT 0),oG 89 86 true 10 (.len true (.t 88)),oG 90 86 true 11 (Ch .eql 87 89),oG 91 86 true 12 (mT 90),oG 92 91 false 13 (mT 0),oG 93 91 false 14 (mT 7),oG 94 91 false 15 (.six (.t 92) (.t 93)),⟨(some 95),(.call 120 [(.t 94)]),(some (91,false)),16,false,[3]⟩,oG 96 91 false 17 (.un .not (.t 95)),oG 97 86 true 18 (Db 91 96),oI 98 19 (Cf 86 97),oJ 20 (Bd 3 4 84),oI 5 21 (mT 98)] .ret))) .skip))))))))) (Ab [oP 99 (.build [(iS 0),(.str (bs [])),(iS 0)] []),oN (Bd 3 4 99),oP 5 (.mv (cB false))] .ret))))⟩
def tr76:trF Tryz.prog Tryz.f76=some af76:=by kernel_rfl
attribute [go_sem] af76
def af39:AF:=⟨36,[(.t 2),(.t 3),(.t 4)],(Ab [oP 2 (.mv (.c .nils)),oP 3 (.mv (cI 0)),oP 4 (.mv (cI 0))] (Ab [oP 5 (.mv (.c .nils))] (.seq (Ab [Aa 9 0,oP 10 (.call 75 [(.t 9),(cI 0)]),Aa 6 10] (.blk 0 (.loop (.seq (Ab [Aa 11 6,Aa 12 0,oP 13 (.len true (.t 12)),oP 14 (Ch .lss 11 13)] (Ez 14 0)) (.blk 1 (Ab [Aa 16 0,Aa 17 6,oP 18 (.call 76 [(.t 16),(.t 17)]),Aa 15 18,oP 19 (.ext (.t 15) 0),oP 20 (.ext (.t 15) 1),oP 7 (.new [(iS 0),(.str (bs [])),(iS 0)]),oN (Bd 3 7 19),Aa 8 20] (.seq (Ab [Aa 21 8,oP 22 (.un .not (.t 21))] (Ag 22 (Ab [Aa 23 6,oP 2 (.mv (.c .nils)),oP 3 (.mv (cI 2)),Aa 4 23] .ret) .skip)) (Ab [Aa 24 5,oP 25 (Am 3 7),oP 26 (.bslice 3 [(.t 25)]),oP 27 (.app 3 32 (.t 24) (.t 26)),Aa 5 27] (Bj [Aa 28 0,Aa 29 6,oP 30 (Ac 1 7),oP 31 (Af 30),oP 32 (.len true (.t 31)),oP 33 (Ch .add 29 32),oP 34 (.call 75 [(.t 28),(.t 33)]),Aa 6 34]))))))))) (Ab [Aa 35 5,Aa 2 35,oP 3 (.mv (cI 0)),oP 4 (.mv (cI 0))] .ret))))⟩
def tr39:trF Tryz.prog Tryz.f39=some af39:=by kernel_rfl
attribute [go_sem] af39
def af122:AF:=⟨47,[(.t 2),(.t 3)],(Ab [oP 2 (.mv (cI 0)),oP 3 (.mv (cB false))] (.seq (Ab [Aa 6 0,oP 7 (.len true (.t 6)),oP 8 (As 7 0),Aa 9 8,oG 10 9 false 0 (mT 0),oG 11 9 false 0 (.len true (.t 10)),oG 12 9 false 0 (Bg .gtr 11 7),oP 13 (Db 9 12)] (Ag 13 (Ab [oP 2 (.mv (cI 0)),oP 3 (.mv (cB false))] .ret) .skip)) (Ab [oP 4 (.mv (cI 0))] (.seq (Ab [Aa 14 0,oP 15 (.len true (.t 14)),oP 16 (.mv (cI 0))] (.blk 0 (.loop (Ab [oP 17 (Ch .lss 16 15)] (.seq (Ez 17 0) (.seq (.blk 1 (Ab [Aa 18 16,Aa 5 18] (.seq (Ab [Aa 19 0,Aa 20 5,oP 21 (.six (.t 19) (.t 20)),oP 22 (.bin 0 .lss (.t 21) (.c (.int .u8 48))),Aa 23 22,oG 24 23 false 0 (mT 0),oG 25 23 false 0 (mT 5),oG 26 23 false 0 (.six (.t 24) (.t 25)),oG 27 23 false 0 (.bin 0 .gtr (.t 26) (.c (.int .u8 57))),oP 28 (Db 23 27)] (Ag 28 (Ab [oP 2 (.mv (cI 0)),oP 3 (.mv (cB false))] .ret) .skip)) (Bj [Aa 29 4,oP 30 (.bin 0 .mul (cI 10) (.t 29)),Aa 31 0,Aa 32 5,oP 33 (.six (.t 31) (.t 32)),oP 34 (.bin 0 .sub (.t 33) (.c (.int .u8 48))),oP 35 (.conv .i64 (.t 34)),oP 36 (Ch .add 30 35),Aa 4 36])))) (Bj [oP 37 (Bg .add 16 1),Aa 16 37]))))))) (.seq (Ab [Aa 38 4,oP 39 (Bg .gtr 38 1000000),Aa 40 39,oG 41 40 false 0 (mT 4),oG 42 40 false 0 (.call 32 [(.t 41)]),oG 43 40 false 0 (mT 0),oG 44 40 false 0 (.bin 4 .neq (.t 42) (.t 43)),oP 45 (Db 40 44)] (Ag 45 (Ab [oP 2 (.mv (cI 0)),oP 3 (.mv (cB false))] .ret) .skip)) (Ab [Aa 46 4,Aa 2 46,oP 3 (.mv (cB true))] .ret))))))⟩
def tr122:trF Tryz.prog Tryz.f122=some af122:=by kernel_rfl
attribute [go_sem] af122
def af32:AF:=⟨5,[(.t 2)],(Ab [oP 2 (.mv (Be []))] (Ab [Aa 3 0,oP 4 (.call 63 [(.t 3)]),Aa 2 4] .ret))⟩
def tr32:trF Tryz.prog Tryz.f32=some af32:=by kernel_rfl
attribute [go_sem] af32
open Go Go.RowKit Go.Proofs.YtgfehkhcmnfpaaaGreatDoor
def lw{α:Type}(S:α->St)(μ:α->Nat)(I:α->Prop)(a:α)(Q:AE->St->Prop):AE->St->Prop:=fun e s'=>match e with|.normal=>∃a',(μ a'<μ a/\I a')/\Wk s' (S a')|e=>Q e s'
def lw_n{α:Type}{S:α->St}{μ:α->Nat}{I:α->Prop}{a:α}{Q:AE->St->Prop}{s:St}:lw S μ I a Q .normal s=∃a',(μ a'<μ a/\I a')/\Wk s (S a'):=q_z
def lw_e{α:Type}{S:α->St}{μ:α->Nat}{I:α->Prop}{a:α}{Q:AE->St->Prop}{s:St}{j:Nat}:lw S μ I a Q (.exit j) s=Q (.exit j) s:=q_z
def lw_r{α:Type}{S:α->St}{μ:α->Nat}{I:α->Prop}{a:α}{Q:AE->St->Prop}{s:St}:lw S μ I a Q .ret s=Q .ret s:=q_z
attribute [go_sem] lw_n lw_e lw_r
def Oh{C:CT}{b:AC}{Q:AE->St->Prop}{α:Type}(S:α->St)(μ:α->Nat)(I:α->Prop)(Mx:∀a,I a->vc C b (lw S μ I a Q) (S a)){s:St}(a0:α)(hI:I a0)(h0:Wk s (S a0)):vc C (.loop b) Q s:=by
 refine Ab1 (fun m s=>∃a,(m=μ a/\I a)/\Wk s (S a)) (fun m s hI=>?_) (μ a0) s ⟨a0,⟨rfl,hI⟩,h0⟩;obtain⟨a,⟨rfl,hI⟩,hw⟩:=hI;refine⟨S a,hw,Wq (fun e s' he=>?_) (Mx a hI)⟩;cases e with
 |normal=>
  obtain⟨a',⟨h1,h2⟩,h3⟩:=he;exact⟨μ a',h1,a',⟨rfl,h2⟩,h3⟩
 |exit id=>exact he
 |ret=>exact he
def Afr(a b:Nat):((a:Int)==(b:Int))=decide (a=b):=by
 by_cases h:a=b
 ·subst h;simp
 ·simp[h,Int.natCast_inj]
def chN(l:By)(p:Nat):Nat:=(l.getD p 0).toNat
def Fw(l:By)(p:Nat):Rr (bs l) p=((chN l p:Nat):Int):=Ack l p
def Ru(n:Nat):Con 120 [.int .u8 n] (.bool (Lh n)):=by
 refine Cq mixed Tryz.func120 tr120 ?_;unfold Lh
 by_cases h1:97<=n<;>by_cases h2:n<=122<;>by_cases h3:65<=n<;>by_cases h4:n<=90 <;>
  simp only[go_sem,seval,h1,h2,h3,h4,show ((97:Int)<=(n:Int))=(97<=n) from propext (by omega),show ((n:Int)<=122)=(n<=122) from propext (by omega),show ((65:Int)<=(n:Int))=(65<=n) from propext (by omega),show ((n:Int)<=90)=(n<=90) from propext (by omega),decide_true,decide_false,q_ky,q_kz,Bool.or_true,Bool.or_false,Bool.true_and,q_l,Bool.false_or,Bool.true_or]
def Rt(n:Nat):Con 121 [.int .u8 n] (.bool (Hz n)):=by
 refine Cq mixed Tryz.func121 tr121 ?_;unfold Hz
 by_cases h1:48<=n<;>by_cases h2:n<=57 <;>
  simp only[go_sem,seval,h1,h2,show ((48:Int)<=(n:Int))=(48<=n) from propext (by omega),show ((n:Int)<=57)=(n<=57) from propext (by omega),decide_true,decide_false,q_ky,q_kz,Bool.true_and,q_l]
def Oc{a b:Nat}(h:a≠b):((a:Int)==(b:Int))=false:=by rw[Afr];simp[h]
end Go.Proofs.YtgfehkhcmnfpaaaGreatDoor.Abs
namespace Go.Proofs
open Go.Shelf
def Tryz.laysM246_ren:Go.Shelf.Ren:=⟨fun|246=>133|283=>157|284=>158|285=>159|286=>160|129=>192|317=>191|318=>193|319=>194|320=>195|337=>216|338=>217|n=>n,fun|2=>2|3=>3|9=>9|4=>4|171=>177|0=>0|53=>92|37=>51|5=>5|173=>180|212=>208|51=>209|20=>20|213=>210|46=>211|232=>237|233=>238|n=>n,fun|17=>0|18=>2|19=>3|n=>n⟩
def Tryz.laysM246:Go.Proofs.LaysM.n246 Tryz.prog Tryz.laysM246_ren:={
 mixed:=by kernel_rfl
 f129:=Tryz.func192.trans (congrArg some (by kernel_rfl))
 f246:=Tryz.func133.trans (congrArg some (by kernel_rfl))
 f283:=Tryz.func157.trans (congrArg some (by kernel_rfl))
 f284:=Tryz.func158.trans (congrArg some (by kernel_rfl))
 f285:=Tryz.func159.trans (congrArg some (by kernel_rfl))
 f286:=Tryz.func160.trans (congrArg some (by kernel_rfl))
 f317:=Tryz.func191.trans (congrArg some (by kernel_rfl))
 f318:=Tryz.func193.trans (congrArg some (by kernel_rfl))
 f319:=Tryz.func194.trans (congrArg some (by kernel_rfl))
 f320:=Tryz.func195.trans (congrArg some (by kernel_rfl))
 f337:=Tryz.func216.trans (congrArg some (by kernel_rfl))
 f338:=Tryz.func217.trans (congrArg some (by kernel_rfl))
 t0:=Tryz.underlying0
 a0:=Tryz.isAgg0
 z0:=Tryz.sizeOf0
 v0:=Tryz.zeroValue0
 t2:=Tryz.underlying2
 a2:=Tryz.isAgg2
 z2:=Tryz.sizeOf2
 v2:=Tryz.zeroValue2
 t3:=Tryz.underlying3
 a3:=Tryz.isAgg3
 z3:=Tryz.sizeOf3
 v3:=Tryz.zeroValue3
 t4:=Tryz.underlying4
 a4:=Tryz.isAgg4
 z4:=Tryz.sizeOf4
 v4:=Tryz.zeroValue4
 t5:=Tryz.underlying5
 a5:=Tryz.isAgg5
 z5:=Tryz.sizeOf5
 v5:=Tryz.zeroValue5
 t9:=Tryz.underlying9
 a9:=Tryz.isAgg9
 z9:=Tryz.sizeOf9
 v9:=Tryz.zeroValue9
 t20:=Tryz.underlying20
 a20:=Tryz.isAgg20
 z20:=Tryz.sizeOf20
 v20:=Tryz.zeroValue20
 t37:=Tryz.underlying51
 a37:=Tryz.isAgg51
 z37:=Tryz.sizeOf51
 v37:=Tryz.zeroValue51
 t46:=Tryz.underlying211
 a46:=Tryz.isAgg211
 z46:=Tryz.sizeOf211
 v46:=Tryz.zeroValue211
 t51:=Tryz.underlying209
 a51:=Tryz.isAgg209
 z51:=Tryz.sizeOf209
 v51:=Tryz.zeroValue209
 t53:=Tryz.underlying92
 a53:=Tryz.isAgg92
 z53:=Tryz.sizeOf92
 v53:=Tryz.zeroValue92
 t171:=Tryz.underlying177
 a171:=Tryz.isAgg177
 z171:=Tryz.sizeOf177
 v171:=Tryz.zeroValue177
 t173:=Tryz.underlying180
 a173:=Tryz.isAgg180
 z173:=Tryz.sizeOf180
 v173:=Tryz.zeroValue180
 t212:=Tryz.underlying208
 a212:=Tryz.isAgg208
 z212:=Tryz.sizeOf208
 v212:=Tryz.zeroValue208
 t213:=Tryz.underlying210
 a213:=Tryz.isAgg210
 z213:=Tryz.sizeOf210
 t232:=Tryz.underlying237
 a232:=Tryz.isAgg237
 z232:=Tryz.sizeOf237
 v232:=Tryz.zeroValue237
 t233:=Tryz.underlying238
 a233:=Tryz.isAgg238
 z233:=Tryz.sizeOf238
 v233:=Tryz.zeroValue238
 g17:=by kernel_rfl
 g18:=by kernel_rfl
 g19:=by kernel_rfl
 i0:=by kernel_rfl
 i2:=by kernel_rfl
 i3:=by kernel_rfl
 i4:=by kernel_rfl
 i5:=by kernel_rfl
 i9:=by kernel_rfl
 i20:=by kernel_rfl
 i37:=by kernel_rfl
 i46:=by kernel_rfl
 i51:=by kernel_rfl
 i53:=by kernel_rfl
 i171:=by kernel_rfl
 i173:=by kernel_rfl
 i212:=by kernel_rfl
 i232:=by kernel_rfl
 i233:=by kernel_rfl
 m17:=by kernel_rfl
 m18:=by kernel_rfl
 m19:=by kernel_rfl }
end Go.Proofs
namespace Go.Proofs.YtgfehkhcmnfpaaaGreatDoor.Abs
open Go Go.Proofs Go.Proofs.YtgfehkhcmnfpaaaGreatDoor
def af63:AF:=⟨5,[(.t 2)],(Ab [oP 2 (.mv (Be []))] (Ab [Aa 3 0,oP 4 (.call 96 [(.t 3)]),Aa 2 4] .ret))⟩
def tr63:trF Tryz.prog Tryz.f63=some af63:=by kernel_rfl
attribute [go_sem] af63
def af96:AF:=⟨5,[(.t 2)],(Ab [oP 2 (.mv (Be []))] (Ab [Aa 3 0,oP 4 (.call 133 [(.t 3),(cI 10)]),Aa 2 4] .ret))⟩
def tr96:trF Tryz.prog Tryz.f96=some af96:=by kernel_rfl
attribute [go_sem] af96
open Go Go.RowKit Go.Proofs.YtgfehkhcmnfpaaaGreatDoor
def I64(n:Int):Prop:=-9223372036854775808<=n/\n<=9223372036854775807
def Akl{n:Int}(h:I64 n):Con 133 [.int .i64 n,.int .i64 10] (.str (bs (Lib.itoa n))):=by
 intro m w vs h1 h2 h3;obtain⟨v,u,rfl⟩:∃v u,vs=[v,u]:=by
  match vs,h2 with
  |[v,u],_=>exact⟨v,u,rfl⟩
 have hv:=h3 0 v _ rfl rfl;have hu:=h3 1 u _ rfl rfl;cases hv;cases hu;obtain⟨⟨e,f,ht⟩,_⟩:=h1.2.2 _ rfl;have hg:Tryz.prog.globalNamed _=some 0:=Tryz.laysM246.m17;refine Calls.mono (Any.internal_strconv_FormatInt_10 Tryz.laysM246 n h.1 h.2 w ?_) (fun e w' he=>?_)
 ·unfold Lib.TabIs World.var?;rw[hg];simp only[Option.bind_some,ht,Lib.pow10Tab,List.map_map];rfl
 ·obtain⟨rfl,k,os,rfl⟩:=he;have hb:=Lib.below_grow w.heap.size w (q_ja _) k os;refine⟨_,m,rfl,.str _,⟨.refl m,rfl⟩,fun _ _ _=>rfl,?_,hb.os,hb.tape,hb.output,hb.size,fun j hj=>hb.block j hj⟩;refine⟨fun b j v hv=>?_,fun b Cv=>?_,fun b Cv=>?_⟩
  ·have:=h1.1 b j v hv;rw[hb.cell (p:=⟨b,j,none⟩) (Td this)];exact this
  ·obtain⟨c,e,h⟩:=h1.2.1 b Cv;exact⟨c,e,(hb.block b (Array.getElem?_eq_some_iff.1 h).1).trans h⟩
  ·obtain⟨⟨e,f,h⟩,q⟩:=h1.2.2 b Cv;exact⟨⟨e,f,(hb.block b (Array.getElem?_eq_some_iff.1 h).1).trans h⟩,q⟩
def i7{n:Int}(h:I64 n):Con 32 [.int .i64 n] (.str (bs (Lib.itoa n))):=by
 refine Cq mixed Tryz.func32 tr32 ?_;simp only[go_sem,seval];refine Aj (r:=.str (bs (Lib.itoa n))) ?_ ?_
 ·refine Cq mixed Tryz.func63 tr63 ?_;simp only[go_sem,seval];refine Aj (r:=.str (bs (Lib.itoa n))) ?_ ?_
  ·refine Cq mixed Tryz.func96 tr96 ?_;simp only[go_sem,seval];refine Aj (Akl h) ?_;simp only[go_sem,seval]
  ·simp only[go_sem,seval]
 ·simp only[go_sem,seval]
def Awc(w:By){i:Nat}(h:i<w.length):Ge (w.take (i+1))=10*Ge (w.take i)+(chN w i-48):=by
 unfold Ge chN;rw[List.take_add_one,q_f h,List.foldl_append];simp[q_j,q_f h]
def Awb(w:By)(h:∀c∈w,Ih c=true):Ge w<10 ^ w.length:=by
 have key:∀(w:By) (n:Nat),(∀c∈w,Ih c=true)->w.foldl (fun n c=>10*n+(c.toNat-48)) n<(n+1)*10 ^ w.length:=by
  intro w
  induction w with
  |nil=>intro n _;simp
  |cons c w ih=>
   intro n h;have hc:=h c (by simp);unfold Ih Hz at hc;simp only[q_jl,q_jt] at hc;have h1:=ih (10*n+(c.toNat-48)) (fun d hd=>h d (List.mem_cons_of_mem _ hd));rw[List.foldl_cons,q_jk,Nat.pow_succ];refine q_ko h1 ?_;rw[Nat.mul_comm (10 ^ w.length) 10,<-Nat.mul_assoc];exact q_jy _ (by omega)
 simpa [Ge] using key w 0 h
def Apl{w:By}(h:w.all Ih=false):Eg w=none:=by
 unfold Eg;split
 ·rfl
 ·simp[h]
def e9(w:By):Con 122 [.str (bs w)] (.tup [.int .i64 ((Eg w).getD 0:Nat),.bool (Eg w).isSome]):=by
 refine Cq mixed Tryz.func122 tr122 ?_
 by_cases h0:w.length=0
 ·have e:Eg w=none:=by unfold Eg;rw[if_pos (.inl h0)]
  rw[e];simp only[go_sem,seval,h0];rfl
 by_cases h7:7<w.length
 ·have e:Eg w=none:=by unfold Eg;rw[if_pos (.inr h7)]
  rw[e];have n0:((w.length:Int)==0)=false:=by rw[beq_eq_false_iff_ne];omega
  simp only[go_sem,seval,n0,q_jn (show (w.length:Int) > 7 by omega)];rfl
 have n0:((w.length:Int)==0)=false:=by rw[beq_eq_false_iff_ne];omega
 simp only[go_sem,seval,n0,q_je (show ¬(w.length:Int) > 7 by omega)];refine Ab0 (fun x=>⟨(.str (bs w)::.J::.J::.J::.int .i64 (Ge (w.take x))::jk8 (jk2 (.int .i64 w.length::.int .i64 x::Fe (jk8 (jk4 (jk2 ([]))))))),[]⟩) w.length (fun x=>Hz (chN w x)=true) (fun x hx hp=>?_) (Cw (by simp[Ci,Ge]));have hd:∀c∈w.take x,Ih c=true:=fun c hc=>by
  obtain⟨i,hi,rfl⟩:=List.getElem_of_mem hc;have Ki:i<x:=by rw[q_kf] at hi;omega
  have hi3:i<w.length:=by omega
  have:=hp i Ki;unfold chN at this;rw[q_j,q_f hi3] at this;rw[List.getElem_take];exact this
 have hv:=Awb _ hd;have Xi:10 ^ (w.take x).length<=10 ^ 7:=Nat.pow_le_pow_right (by decide) (by rw[q_kf];omega);have hv7:Ge (w.take x)<10000000:=q_ko hv (by simpa using Xi)
 by_cases Az:x<w.length
 ·have e0:(0:Int)<=(x:Int):=by omega
  have e1:(x:Int)<(w.length:Int):=by omega
  have hw:IntKind.i64.wrap ((x:Int)+1)=((x+1:Nat):Int):=by rw[w64 (by unfold fit;omega)];omega
  cases Mp:Hz (chN w x)
  ·have e:Eg w=none:=Apl (by rw[List.all_eq_false];exact⟨w[x],q_kd Az,by
    unfold chN at Mp;rw[q_j,q_f Az] at Mp;simp only[q_jz] at Mp;simp[Ih,Mp]⟩)
   rw[e];unfold Hz at Mp
   by_cases c1:48<=chN w x
   ·have c2:¬chN w x<=57:=by intro h;simp[c1,h] at Mp
    simp only[go_sem,seval,Fw,e0,e1,Az,q_jn e1,q_je (show ¬((chN w x:Nat):Int)<48 by omega),q_jn (show ((chN w x:Nat):Int) > 57 by omega)];rfl
   ·simp only[go_sem,seval,Fw,e0,e1,Az,q_jn e1,q_jn (show ((chN w x:Nat):Int)<48 by omega)];rfl
  ·have Aej:=Mp;unfold Hz at Mp;simp only[q_jl,q_jt] at Mp;obtain⟨c1,c2⟩:=Mp;have hs:IntKind.u8.wrap (((chN w x:Nat):Int)-48)=((chN w x-48:Nat):Int):=by
    have:((chN w x:Nat):Int)-48=((chN w x-48:Nat):Int):=by omega
    rw[this];unfold IntKind.wrap;simp[IntKind.bits,IntKind.signed];omega
   have Av:IntKind.i64.wrap ((chN w x-48:Nat):Int)=((chN w x-48:Nat):Int):=w64 (by unfold fit;omega);have hm:IntKind.i64.wrap (10*((Ge (w.take x):Nat):Int))=((10*Ge (w.take x):Nat):Int):=by rw[w64 (by unfold fit;omega)];omega
   have ha:IntKind.i64.wrap (((10*Ge (w.take x):Nat):Int)+((chN w x-48:Nat):Int))=((Ge (w.take (x+1)):Nat):Int):=by rw[Awc w Az,w64 (by unfold fit;omega)];omega
   simp only[go_sem,seval,Fw,e0,e1,Az,q_jn e1,q_je (show ¬((chN w x:Nat):Int)<48 by omega),q_je (show ¬((chN w x:Nat):Int) > 57 by omega),hs,Av,hm,ha,hw]
   first|exact⟨Az,Aej,Cw (by simp[Ci])⟩|exact⟨Aej,Cw (by simp[Ci])⟩|exact Cw (by simp[Ci])
 ·have Gk:x=w.length:=by omega
  subst Gk;rw[q_kk] at *
  have Ev:w.all Ih=true:=List.all_eq_true.2 hd;have e1:¬(w.length:Int)<(w.length:Int):=by omega
  have cp:=i7 (n:=(Ge w:Int)) ⟨by omega,by omega⟩
  by_cases hb:1000000<Ge w
  ·have e:Eg w=none:=by
    unfold Eg;rw[if_neg (by omega),if_pos Ev,if_pos (.inl hb)]
   rw[e];simp only[go_sem,seval,q_je e1,q_jn (show ((Ge w:Nat):Int) > 1000000 by omega)];rfl
  ·simp only[go_sem,seval,q_je e1,q_je (show ¬((Ge w:Nat):Int) > 1000000 by omega)];refine Aj cp ?_
   by_cases he:Lib.itoa (Ge w:Nat)=w
   ·have e:Eg w=some (Ge w):=by
     unfold Eg;rw[if_neg (by omega),if_pos Ev,if_neg (by intro h;rcases h with h|h;exact hb h;exact h he)]
    rw[e];have hq:(Lib.itoa (Ge w:Nat)==w)=true:=by rw[he];simp
    simp only[go_sem,seval,hq];rfl
   ·have e:Eg w=none:=by
     unfold Eg;rw[if_neg (by omega),if_pos Ev,if_pos (.inr he)]
    rw[e];have hq:(Lib.itoa (Ge w:Nat)==w)=false:=by simp[he]
    simp only[go_sem,seval,hq];rfl
def Kg{l:By}{a:Nat}(h:a<l.length):l.drop a=l.getD a 0::l.drop (a+1):=by
 rw[List.drop_eq_getElem_cons h,q_j,q_f h];rfl
def Ub{l:By}{a:Nat}(h:¬a<l.length):l.drop a=[]:=List.drop_eq_nil_of_le (by omega)
def sk_f{l:By}{a:Nat}(h:a<l.length):skF false (l.drop a)=if chN l a=32\/chN l a=9\/chN l a=10 then skF false (l.drop (a+1))+1 else if chN l a=59 then skF true (l.drop (a+1))+1 else 0:=by
 rw[Kg h];rfl
def sk_t{l:By}{a:Nat}(h:a<l.length):skF true (l.drop a)=if chN l a=10 then skF false (l.drop (a+1))+1 else skF true (l.drop (a+1))+1:=by
 rw[Kg h];rfl
def Av3{P:UInt8->Bool}(d:UInt8):∀(r:By),(∀q,q<(r.takeWhile P).length->P (r.getD q d)=true)/\((r.takeWhile P).length<r.length->P (r.getD (r.takeWhile P).length d)=false)/\r.dropWhile P=r.drop (r.takeWhile P).length/\r.takeWhile P=r.take (r.takeWhile P).length/\(r.takeWhile P).length<=r.length:=by
 intro r
 induction r with
 |nil=>simp
 |cons c r ih=>
  obtain⟨i1,i2,i3,i4,i5⟩:=ih;cases hc:P c with
  |false=>simp[List.takeWhile_cons,List.dropWhile_cons,hc]
  |true=>
   simp only[List.takeWhile_cons,List.dropWhile_cons,hc,if_true,q_jk,List.drop_succ_cons,List.take_succ_cons];refine⟨fun q hq=>?_,fun h=>?_,i3,by rw[<-i4],by omega⟩
   ·cases q with
    |zero=>simpa using hc
    |succ q=>simpa using i1 q (by omega)
   ·simpa using i2 (by omega)
def Ac6(l:By)(hl:l.length<1000000000000){p:Nat}(hp:p<=l.length):Con 75 [.str (bs l),.int .i64 p] (.int .i64 ((p+skF false (l.drop p):Nat):Int)):=by
 refine Cq mixed Tryz.func75 tr75 ?_;simp only[go_sem,seval];refine Oh (fun a:Nat=>⟨(.str (bs l)::.int .i64 a::.J::.J::.int .i64 0::Fe (jk8 (jk4 (.J::[])))),[]⟩) (fun a=>l.length-a) (fun a=>p<=a/\a<=l.length/\a+skF false (l.drop a)=p+skF false (l.drop p)) (fun a ha=>?_) p ⟨q_ja _,hp,rfl⟩ (Cw (by simp[Ci]));obtain⟨h1,h2,h3⟩:=ha
 by_cases hq:a<l.length
 ·have e0:(0:Int)<=(a:Int):=by omega
  have e1:(a:Int)<(l.length:Int):=by omega
  have hs:=sk_f hq;have hw:IntKind.i64.wrap ((a:Int)+1)=((a+1:Nat):Int):=by rw[w64 (by unfold fit;omega)];omega
  by_cases c1:chN l a=32\/chN l a=9\/chN l a=10
  ·rw[if_pos c1] at hs;have d1:=fun (n:Nat) (h:chN l a≠n)=>Oc h
   rcases c1 with c|c|c
   all_goals
    simp only[go_sem,seval,Fw,e0,e1,hq,c];refine⟨a+1,⟨by omega,by omega,by omega,by omega⟩,?_⟩;rw[hw];exact Cw (by simp[Ci])
  ·rw[if_neg c1] at hs;have c2:chN l a≠32:=fun h=>c1 (.inl h)
   have c3:chN l a≠9:=fun h=>c1 (.inr (.inl h))
   have c4:chN l a≠10:=fun h=>c1 (.inr (.inr h))
   have d2:=Oc c2;have d3:=Oc c3;have d4:=Oc c4;simp only[Int.cast_ofNat_Int] at d2 d3 d4
   by_cases c5:chN l a=59
   ·rw[if_pos c5] at hs;have d5:((chN l a:Nat):Int)=59:=by omega
    simp only[go_sem,seval,Fw,e0,e1,hq,c5];refine Oh (fun b:Nat=>⟨(.str (bs l)::.int .i64 b::.J::.J::.int .i64 0::Fe (jk8 (jk4 (.J::[])))),[]⟩) (fun b=>l.length-b) (fun b=>a<=b/\b<=l.length/\((b=a/\True)\/a<b/\b+skF true (l.drop b)=a+skF false (l.drop a))) (fun b hb=>?_) a ⟨q_ja _,by omega,.inl ⟨rfl,trivial⟩⟩ (Cw (by simp[Ci]));obtain⟨b1,b2,b3⟩:=hb
    by_cases hq2:b<l.length
    ·have f0:(0:Int)<=(b:Int):=by omega
     have f1:(b:Int)<(l.length:Int):=by omega
     have hw2:IntKind.i64.wrap ((b:Int)+1)=((b+1:Nat):Int):=by rw[w64 (by unfold fit;omega)];omega
     have ht:=sk_t hq2;have hf:=sk_f hq2
     by_cases c6:chN l b=10
     ·rw[if_pos c6] at ht;rw[if_pos (.inr (.inr c6))] at hf;simp only[go_sem,seval,Fw,f0,f1,hq2,c6];have:a<b:=by
       rcases b3 with⟨rfl,_⟩|h
       ·exact absurd c6 c4
       ·exact h.1
      exact⟨b,⟨by omega,by omega,by omega,by omega⟩,Cw (by simp[Ci])⟩
     ·rw[if_neg c6] at ht;have d6:=Oc c6;simp only[Int.cast_ofNat_Int] at d6;have d7:(((chN l b:Nat):Int) != 10)=true:=by simp[bne,d6]
      simp only[go_sem,seval,Fw,f0,f1,hq2,d6,d7];refine⟨b+1,⟨by omega,by omega,by omega,.inr ⟨by omega,?_⟩⟩,?_⟩
      ·rcases b3 with⟨rfl,_⟩|h
       ·omega
       ·omega
      ·rw[hw2];exact Cw (by simp[Ci])
    ·have f1:¬(b:Int)<(l.length:Int):=by omega
     have:b=l.length:=by omega
     subst this;simp only[go_sem,seval,f1];have h5:((l.length=a/\True)\/a<l.length/\l.length+skF true (l.drop l.length)=a+skF false (l.drop a)):=b3;rw[Ub (Nat.lt_irrefl _)] at h5;simp only[skF] at h5;refine⟨l.length,⟨by omega,by omega,by omega,?_⟩,Cw (by simp[Ci])⟩;rw[Ub (Nat.lt_irrefl _)];simp only[skF];omega
   ·rw[if_neg c5] at hs;have d5:=Oc c5;simp only[Int.cast_ofNat_Int] at d5;have:a=p+skF false (l.drop p):=by omega
    simp only[go_sem,seval,Fw,e0,e1,hq,d2,d3,d4,d5,<-this]
 ·have e1:¬(a:Int)<(l.length:Int):=by omega
  rw[Ub hq] at h3;simp only[skF] at h3;simp only[go_sem,seval,e1,<-h3]
def Zj{P:UInt8->Bool}{l:By}{p:Nat}(hp:p<l.length){w:By}(hw:w=(l.drop (p+1)).takeWhile P) :
  p+1+w.length<=l.length/\(∀q,p<q->q<p+1+w.length->P (l.getD q 0)=true)/\(p+1+w.length<l.length->P (l.getD (p+1+w.length) 0)=false)/\(l.drop p).take (1+w.length)=l.getD p 0::w/\(l.drop (p+1)).dropWhile P=l.drop (p+1+w.length):=by
 have hr:l.drop (p+1)=l.drop (p+1):=rfl;have hl:(l.drop (p+1)).length=l.length-(p+1):=by simp
 subst hw;obtain⟨a1,a2,a3,a4,a5⟩:=Av3 (P:=P) 0 (l.drop (p+1));have hg:∀q,(l.drop (p+1)).getD q 0=l.getD (p+1+q) 0:=fun q=>by simp[q_j,q_kj]
 refine⟨by omega,fun q h1 h2=>?_,fun h=>?_,?_,?_⟩
 ·have:=a1 (q-(p+1)) (by omega);rw[hg,show p+1+(q-(p+1))=q by omega] at this;exact this
 ·have:=a2 (by omega);rw[hg] at this;exact this
 ·rw[Kg hp,Nat.add_comm 1,List.take_succ_cons,<-a4]
 ·rw[a3,List.drop_drop]
def Ac2{l:By}(hl:l.length<1000000000000){p:Nat}(hp:p<l.length):Con 76 [.str (bs l),.int .i64 p] (.tup [.agg true (Gp (Cd p (l.drop p)).1),.bool (Cd p (l.drop p)).2]):=by
 have e0:(0:Int)<=(p:Int):=by omega
 have Vj:IntKind.i64.wrap ((p:Int)+1)=((p+1:Nat):Int):=by rw[w64 (by unfold fit;omega)];omega
 refine Cq mixed Tryz.func76 tr76 ?_;rw[Kg hp];have hcc:(l.getD p 0).toNat=chN l p:=rfl
 by_cases c1:chN l p=40
 ·have e:Cd p (l.getD p 0::l.drop (p+1))=(⟨1,[40],p⟩,true):=by rw[Cd,if_pos (hcc.trans c1)]
  rw[e];simp only[go_sem,seval,Fw,e0,hp,c1];rfl
 by_cases c2:chN l p=41
 ·have e:Cd p (l.getD p 0::l.drop (p+1))=(⟨2,[41],p⟩,true):=by rw[Cd,hcc,if_neg c1,if_pos c2]
  rw[e];simp only[go_sem,seval,Fw,e0,hp,c2];rfl
 have d1:=Oc c1;have d2:=Oc c2;simp only[Int.cast_ofNat_Int] at d1 d2;cases c3:Lh (chN l p);rotate_left
 ·obtain⟨w,hw⟩:∃w,w=(l.drop (p+1)).takeWhile Zn:=⟨_,rfl⟩
  obtain⟨t1,t2,t3,t4,t5⟩:=Zj hp hw;have e:Cd p (l.getD p 0::l.drop (p+1))=(⟨3,l.getD p 0::w,p⟩,decide (w.length<20)):=by rw[Cd,hcc,if_neg c1,if_neg c2,if_pos c3,<-hw]
  rw[e,<-t4];simp only[go_sem,seval,Fw,e0,hp,d1,d2];refine Aj (Ru _) ?_;simp only[go_sem,seval,c3];rw[Vj];generalize hE:p+1+w.length=E at t1 t2 t3;refine Oh (fun a:Nat=>⟨(.str (bs l)::.int .i64 p::.J::.J::.ref 0 0 0 0::.bool false::.J::.int .i64 a::jk4 (jk2 (.J::.bool false::jk4 (.bool false::jk4 (.bool true::Gd (Gd (jk8 (jk2 ([]))))))))),[⟨true,3,[[.int .i64 0,.str (bs []),.int .i64 0]],0,0,true⟩]⟩) (fun a=>E-a) (fun a=>p<a/\a<=E) (fun a ha=>?_) (p+1) ⟨by omega,by omega⟩ ?_
  ·by_cases hq:a<E
   ·have hc:=t2 a ha.1 hq;have f0:(0:Int)<=(a:Int):=by omega
    have f1:(a:Int)<(l.length:Int):=by omega
    have f2:a<l.length:=by omega
    have hc:(Lh (chN l a) || Hz (chN l a))=true:=hc;simp only[go_sem,seval,Fw,f0,f1,f2];refine Aj (Ru _) ?_;cases h1:Lh (chN l a)
    ·rw[h1,Bool.false_or] at hc;simp only[go_sem,seval,Fw,f0,f1,f2];refine Aj (Rt _) ?_;simp only[go_sem,seval,hc];refine⟨a+1,⟨by omega,by omega⟩,?_⟩;rw[show ((a:Int)+1)=((a+1:Nat):Int) by omega,w64 (by unfold fit;omega)];exact Cw (by simp[Ci])
    ·simp only[go_sem,seval];refine⟨a+1,⟨by omega,by omega⟩,?_⟩;rw[show ((a:Int)+1)=((a+1:Nat):Int) by omega,w64 (by unfold fit;omega)];exact Cw (by simp[Ci])
   ·have q9:a=E:=by omega
    subst q9;have g0:(0:Int)<=(p:Int):=by omega
    have g1:(p:Int)<=(a:Int):=by omega
    have g2:(a:Int)<=(l.length:Int):=by omega
    have g3:(0:Int)<=(a:Int):=by omega
    have g4:p<=a:=by omega
    have g5:a<=l.length:=by omega
    have g6:decide (IntKind.i64.wrap ((a:Int)-p)<=20)=decide (w.length<20):=by rw[w64 (by unfold fit;omega)];exact decide_eq_decide.2 (by omega)
    have g7:a-p=1+w.length:=by omega
    by_cases Az:a<l.length
    ·have hc:(Lh (chN l a) || Hz (chN l a))=false:=t3 Az;rw[Bool.or_eq_false_iff] at hc;have f1:(a:Int)<(l.length:Int):=by omega
     simp only[go_sem,seval,Fw,g3,f1,Az];refine Aj (Ru _) ?_;rw[hc.1];simp only[go_sem,seval,Fw,g3,f1,Az];refine Aj (Rt _) ?_;rw[hc.2];simp only[go_sem,seval,g0,g1,g2,g3,g4,g5,g6,g7];rfl
    ·have f1:¬(a:Int)<(l.length:Int):=by omega
     simp only[go_sem,seval,f1,g0,g1,g2,g3,g4,g5,g6,g7];rfl
  ·exact Cw (by simp[Ci])
 cases c4:Hz (chN l p)
 ·have e:Cd p (l.getD p 0::l.drop (p+1))=(⟨0,[],0⟩,false):=by rw[Cd,hcc,if_neg c1,if_neg c2,c3,c4];rfl
  rw[e];simp only[go_sem,seval,Fw,e0,hp,d1,d2];refine Aj (Ru _) ?_;rw[c3];simp only[go_sem,seval,Fw,e0,hp,d1,d2];refine Aj (Rt _) ?_;rw[c4];simp only[go_sem,seval];rfl
 ·obtain⟨w,hw⟩:∃w,w=(l.drop (p+1)).takeWhile Ih:=⟨_,rfl⟩
  obtain⟨t1,t2,t3,t4,t5⟩:=Zj hp hw;have e:Cd p (l.getD p 0::l.drop (p+1))=(⟨4,l.getD p 0::w,p⟩,(Eg (l.getD p 0::w)).isSome && (match l.drop (p+1+w.length) with|[]=>true|d::_=>!Lh d.toNat)):=by rw[Cd,hcc,if_neg c1,if_neg c2,c3,c4,<-hw,t5];rfl
  rw[e,<-t4];have cg:=e9 ((l.drop p).take (1+w.length));generalize hE:p+1+w.length=E at t1 t2 t3 e |-;simp only[go_sem,seval,Fw,e0,hp,d1,d2];refine Aj (Ru _) ?_;rw[c3];simp only[go_sem,seval,Fw,e0,hp,d1,d2];refine Aj (Rt _) ?_;rw[c4];simp only[go_sem,seval,Vj];refine Oh (fun a:Nat=>⟨(.str (bs l)::.int .i64 p::.J::.J::.ref 0 0 0 0::.bool false::.J::.int .i64 a::Gd (Gd (Fe (jk8 (jk4 ([])))))),[⟨true,3,[[.int .i64 0,.str (bs []),.int .i64 0]],0,0,true⟩]⟩) (fun a=>E-a) (fun a=>p<a/\a<=E) (fun a ha=>?_) (p+1) ⟨by omega,by omega⟩ ?_
  ·by_cases hq:a<E
   ·have hc:Hz (chN l a)=true:=t2 a ha.1 hq;have f0:(0:Int)<=(a:Int):=by omega
    have f1:(a:Int)<(l.length:Int):=by omega
    have f2:a<l.length:=by omega
    simp only[go_sem,seval,Fw,f0,f1,f2];refine Aj (Rt _) ?_;simp only[go_sem,seval,hc];refine⟨a+1,⟨by omega,by omega⟩,?_⟩;rw[show ((a:Int)+1)=((a+1:Nat):Int) by omega,w64 (by unfold fit;omega)];exact Cw (by simp[Ci])
   ·have q9:a=E:=by omega
    subst q9;have g1:(p:Int)<=(a:Int):=by omega
    have g2:(a:Int)<=(l.length:Int):=by omega
    have g3:(0:Int)<=(a:Int):=by omega
    have g4:p<=a:=by omega
    have g7:a-p=1+w.length:=by omega
    by_cases Az:a<l.length
    ·have hc:Hz (chN l a)=false:=t3 Az;have f1:(a:Int)<(l.length:Int):=by omega
     have f2:((a:Int)==(l.length:Int))=false:=Oc (by omega);simp only[go_sem,seval,Fw,g3,f1,Az];refine Aj (Rt _) ?_;rw[hc];rw[Kg Az];have v6:(l.getD a 0).toNat=chN l a:=rfl;simp only[v6];simp only[go_sem,seval,e0,g1,g2,g3,g4,g7];refine Aj cg ?_;cases hb:(Eg ((l.drop p).take (1+w.length))).isSome
     ·simp only[go_sem,seval,e0,g1,g2,g3,g4,g7];rfl
     ·simp only[go_sem,seval,Fw,e0,g1,g2,g3,g4,g7,f2,f1,Az];refine Aj (Ru _) ?_;simp only[go_sem,seval];rfl
    ·have f1:¬(a:Int)<(l.length:Int):=by omega
     have f2:((a:Int)==(l.length:Int))=true:=by rw[Afr];simp;omega
     rw[Ub Az];simp only[go_sem,seval,f1,e0,g1,g2,g3,g4,g7];refine Aj cg ?_;cases hb:(Eg ((l.drop p).take (1+w.length))).isSome
     ·simp only[go_sem,seval,e0,g1,g2,g3,g4,g7];rfl
     ·simp only[go_sem,seval,Fw,e0,g1,g2,g3,g4,g7,f2,f1,Az];rfl
  ·exact Cw (by simp[Ci])
def Mi{l:By}{q:Nat}(hq:q<l.length)(ho:(Cd q (l.drop q)).2=true) :
  1<=(Cd q (l.drop q)).1.w.length/\q+(Cd q (l.drop q)).1.w.length<=l.length/\(Cd q (l.drop q)).1.w=(l.drop q).take (Cd q (l.drop q)).1.w.length/\(Cd q (l.drop q)).1.p=q/\1<=(Cd q (l.drop q)).1.k/\(Cd q (l.drop q)).1.k<=4:=by
 have Ex:(l.drop q).take 1=[l.getD q 0]:=by rw[Kg hq];rfl
 have hcc:(l.getD q 0).toNat=chN l q:=rfl;have hch:∀n,n<256->chN l q=n->l.getD q 0=UInt8.ofNat n:=fun n hn h=>by unfold chN at h;rw[<-h];simp
 revert ho;rw[Kg hq,Cd,hcc];rw[Kg hq] at Ex;split
 ·rename_i h;intro _;refine⟨by simp,by show q+1<=_;omega,?_,rfl,by simp,by simp⟩;show [40]=_;rw[show (([40]:By)).length=1 from rfl,Ex,hch 40 (by decide) h];rfl
 split
 ·rename_i h;intro _;refine⟨by simp,by show q+1<=_;omega,?_,rfl,by simp,by simp⟩;show [41]=_;rw[show (([41]:By)).length=1 from rfl,Ex,hch 41 (by decide) h];rfl
 split
 ·intro _;obtain⟨t1,_,_,t4,_⟩:=Zj (P:=Zn) hq rfl;refine⟨by simp,by simp only[q_jk];omega,?_,rfl,by simp,by simp⟩;show _::_=_;rw[Kg hq,Nat.add_comm 1 (List.length _)] at t4;rw[q_jk];exact t4.symm
 split
 ·intro _;obtain⟨t1,_,_,t4,_⟩:=Zj (P:=Ih) hq rfl;refine⟨by simp,by simp only[q_jk];omega,?_,rfl,by simp,by simp⟩;show _::_=_;rw[Kg hq,Nat.add_comm 1 (List.length _)] at t4;rw[q_jk];exact t4.symm
 ·intro h;cases h
inductive LxG(l:By):Nat->List Tok->Option Nat->Prop
 |nil:LxG l l.length [] none
 |bad {q:Nat} (hq:q<l.length) (h:(Cd q (l.drop q)).2=false):LxG l q [] (some q)
 |tok {q:Nat} {ts:List Tok} {e:Option Nat} (hq:q<l.length) (h:(Cd q (l.drop q)).2=true)
   (r:LxG l (q+(Cd q (l.drop q)).1.w.length+skF false (l.drop (q+(Cd q (l.drop q)).1.w.length))) ts e):LxG l q ((Cd q (l.drop q)).1::ts) e
def Arp(l:By):∀(f p:Nat),p<=l.length->l.length-p<f->LxG l (p+skF false (l.drop p)) (Tb f p (l.drop p)).1 (Tb f p (l.drop p)).2:=by
 intro f
 induction f with
 |zero=>intro p h1 h2;omega
 |succ f ih=>
  intro p h1 h2;have hk:=Au6 (l.drop p) false;rw[q_kg] at hk;unfold Tb;rw[List.drop_drop]
  by_cases hq:p+skF false (l.drop p)<l.length
  ·have hd:=Kg hq;split
   ·rename_i h;rw[hd] at h;cases h
   ·rename_i hs;cases ho:(Cd (p+skF false (l.drop p)) (l.drop (p+skF false (l.drop p)))).2
    ·rw[if_neg (by decide)];exact .bad hq ho
    ·rw[if_pos rfl];obtain⟨w1,w2,_⟩:=Mi hq ho;rw[List.drop_drop];exact .tok hq ho (ih _ w2 (by omega))
  ·have hd:=Ub hq;rw[hd];have:p+skF false (l.drop p)=l.length:=by omega
   rw[this];exact .nil
def Li(l:By):LxG l (skF false l) (Bs l).1 (Bs l).2:=by
 have:=Arp l (l.length+1) 0 (Nat.zero_le _) (by omega);simpa [Bs] using this
def Adf(z:Nat)(l:GV):SV:=match l with
 |[]=>.nils
 |_=>.dsl z l
def Aa1(l:By):List Tok×Nat->St
 |([],q)=>⟨(.str (bs l)::.J::.nils::.int .i64 0::.int .i64 0::.nils::.int .i64 q::Fe (jk8 (jk4 (.J::[])))),[]⟩
 |(t::ts,q)=>⟨(.str (bs l)::.J::.nils::.int .i64 0::.int .i64 0::.osl 2 ts.length 0 (ts.length+1)::.int .i64 q::Fe (jk8 (jk4 (.J::[])))),[⟨true,3,[Gp t],0,0,true⟩,⟨false,3,[Gp t],0,0,true⟩,⟨false,3,(t::ts).map Gp,ts.length,ts.length,true⟩]⟩
def Aa2(l:By)(q:Nat):Aa1 l ([],q)=⟨(.str (bs l)::.J::.nils::.int .i64 0::.int .i64 0::.nils::.int .i64 q::Fe (jk8 (jk4 (.J::[])))),[]⟩:=rfl
def Wd(l:By)(t:Tok)(ts:List Tok)(q:Nat):Aa1 l (t::ts,q)=⟨(.str (bs l)::.J::.nils::.int .i64 0::.int .i64 0::.osl 2 ts.length 0 (ts.length+1)::.int .i64 q::Fe (jk8 (jk4 (.J::[])))),[⟨true,3,[Gp t],0,0,true⟩,⟨false,3,[Gp t],0,0,true⟩,⟨false,3,(t::ts).map Gp,ts.length,ts.length,true⟩]⟩:=rfl
def Af3:List Tok×Option Nat->List SV
 |(ts,none)=>[Adf 3 (ts.map Gp),.int .i64 0,.int .i64 0]
 |(_,some p)=>[.nils,.int .i64 2,.int .i64 p]
def LxG.le{l:By}{q:Nat}{ts:List Tok}{e:Option Nat}(h:LxG l q ts e):q<=l.length/\ts.length<=l.length-q/\∀p,e=some p->p<l.length/\q<=p:=by
 induction h with
 |nil=>exact⟨q_ja _,by simp,fun p h=>by cases h⟩
 |bad hq h=>exact⟨Nat.le_of_lt hq,by simp,fun p h=>by cases h;exact⟨hq,q_ja _⟩⟩
 |@tok q ts e hq h r ih=>
  obtain⟨w1,w2,_⟩:=Mi hq h;refine⟨Nat.le_of_lt hq,?_,fun p hp=>⟨(ih.2.2 p hp).1,?_⟩⟩
  ·have:=ih.2.1;rw[q_jk];omega
  ·have:=(ih.2.2 p hp).2;omega
def Akr{l:By}(hl:l.length<1000000000000):Con 39 [.str (bs l)] (.tup (Af3 (Bs l))):=by
 have hx:=Li l;have hln:=hx.le;generalize Bs l=R at hx hln;obtain⟨R1,R2⟩:=R;simp only at hx hln;have Ye:=Ac6 l hl (Nat.zero_le _);simp only[List.drop_zero,q_jg] at Ye;refine Cq mixed Tryz.func39 tr39 ?_;simp only[go_sem,seval];refine Aj Ye ?_;simp only[go_sem,seval];refine Oh (Aa1 l) (fun a=>R1.length-a.1.length) (fun a=>∃rest,R1=a.1++rest/\LxG l a.2 rest R2) (fun a ha=>?_) ([],skF false l) ⟨R1,rfl,hx⟩ (Cw (by simp[Ci]));obtain⟨dn,q⟩:=a;obtain⟨rest,r1,r2⟩:=ha;simp only at r1 r2;cases r2 with
 |nil=>
  rw[q_k] at r1;subst r1;have f1:¬(l.length:Int)<(l.length:Int):=by omega
  cases R1 with
  |nil=>
   rw[Aa2];simp only[go_sem,seval,f1];rfl
  |cons t ts=>
   rw[Wd];simp only[go_sem,seval,f1];rw[q_js (by simp)];rfl
 |bad hq h=>
  have f1:(q:Int)<(l.length:Int):=by omega
  have co:=Ac2 hl hq;rw[h] at co;cases dn with
  |nil=>
   rw[Aa2];simp only[go_sem,seval,f1];refine Aj co ?_;simp only[go_sem,seval];exact⟨rfl,rfl⟩
  |cons d dn=>
   rw[Wd];simp only[go_sem,seval,f1];refine Aj co ?_;simp only[go_sem,seval];exact⟨rfl,rfl⟩
 |@tok _ ts _ hq h r=>
  have f1:(q:Int)<(l.length:Int):=by omega
  have co:=Ac2 hl hq;rw[h] at co;obtain⟨w1,w2,w3,w4,_,_⟩:=Mi hq h;have cs:=Ac6 l hl w2;have hw:IntKind.i64.wrap ((q:Int)+((Cd q (l.drop q)).1.w.length:Int))=((q+(Cd q (l.drop q)).1.w.length:Nat):Int):=by rw[w64 (by unfold fit;omega)];omega
  generalize hT:Cd q (l.drop q)=T at *
  obtain⟨⟨k,w,p⟩,ok⟩:=T;simp only at w1 w2 w3 w4 h r cs hw co;subst w4;have kt:Gp ⟨k,w,p⟩=[.int .i64 k,.str (bs w),.int .i64 p]:=rfl;rw[kt] at co;have Bf:R1.length=dn.length+(ts.length+1):=by rw[r1];simp
  cases dn with
  |nil=>
   rw[Aa2]
   repeat' first
   |simp only[go_sem,seval,f1,hw]
   |refine Aj co ?_
   |refine Aj cs ?_
   refine⟨([⟨k,w,p⟩],p+w.length+skF false (l.drop (p+w.length))),⟨by simp only[q_jk,List.length_nil] at Bf |-;omega,ts,r1,r⟩,?_⟩;rw[Wd];simp only[q_h,q_i,kt];exact Cw (by simp[Ci])
  |cons d dn=>
   rw[Wd];simp only[go_sem,seval,f1];refine Aj co ?_;simp only[go_sem,seval,hw];simp only[q_jk] at Bf;refine⟨⟨by simp,by omega,by omega⟩,?_⟩;refine Aj cs ?_;simp only[go_sem,seval];refine⟨(d::(dn++[⟨k,w,p⟩]),p+w.length+skF false (l.drop (p+w.length))),⟨by simp only[q_jk,q_jr,List.length_nil];omega,ts,by simp[r1],r⟩,?_⟩;rw[Wd];simp only[q_h,q_kr,q_i,kt,q_jr,q_jk,List.length_nil,q_g,q_jg];exact Jr 3 (by simp[Ci]) (by simp) (by simp[Dt]) (by simp)
open Go Go.RowKit
def Tok.back(d:Nat)(t:Tok):Tok:={ t with p:=t.p-d }
def Agq(q d:Nat)(s:By):(Cd (q-d) s).2=(Cd q s).2/\(Cd (q-d) s).1.w=(Cd q s).1.w/\(Cd (q-d) s).1.k=(Cd q s).1.k:=by
 cases s with
 |nil=>exact⟨rfl,rfl,rfl⟩
 |cons c r=>
  simp only[Cd]
  repeat' split
  all_goals exact⟨rfl,rfl,rfl⟩
def Atj{l:By}{q d:Nat}(hq:q<l.length)(ho:(Cd q (l.drop q)).2=true):Cd (q-d) (l.drop q)=((Cd q (l.drop q)).1.back d,true):=by
 obtain⟨h1,h2,h3⟩:=Agq q d (l.drop q);have h4:=(Mi hq ho).2.2.2.1;have h5:(Cd (q-d) (l.drop q)).1.p=q-d:=by
  have hw:=(Mi hq ho).1;rw[Kg hq] at ho |-;simp only[Cd] at ho |-
  repeat' split
  all_goals first|rfl|skip
  rename_i a1 a2 a3 a4;rw[if_neg a1,if_neg a2,if_neg a3,if_neg a4] at ho;cases ho
 generalize Cd (q-d) (l.drop q)=a at *
 obtain⟨⟨k,w,p⟩,b⟩:=a;unfold Tok.back;rw[h4];simp only at h1 h2 h3 h5;rw[h1,h2,h3,h5,ho]
def LxG.back{l:By}{q:Nat}{ts:List Tok}{e:Option Nat}(h:LxG l q ts e):∀d,d<=q->LxG (l.drop d) (q-d) (ts.map (Tok.back d)) (e.map (· - d)):=by
 induction h with
 |nil=>
  intro d hd;have:l.length-d=(l.drop d).length:=by simp
  rw[this];exact .nil
 |@bad q hq h=>
  intro d hd;refine .bad (by rw[q_kg];omega) ?_;rw[List.drop_drop,show d+(q-d)=q by omega];exact (Agq q d _).1.trans h
 |@tok q ts e hq h r ih=>
  intro d hd;have hb:=Atj (d:=d) hq h;have Xm:(l.drop d).drop (q-d)=l.drop q:=by rw[List.drop_drop,show d+(q-d)=q by omega]
  have e1:(Cd (q-d) ((l.drop d).drop (q-d))).1=(Cd q (l.drop q)).1.back d:=by rw[Xm,hb]
  rw[q_h,<-e1];refine .tok (by rw[q_kg];omega) (by rw[Xm,hb]) ?_;have hw:(Cd (q-d) ((l.drop d).drop (q-d))).1.w.length=(Cd q (l.drop q)).1.w.length:=by rw[e1];rfl
  rw[hw,List.drop_drop];have:=ih d (by omega);rw[show d+(q-d+(Cd q (l.drop q)).1.w.length)=q+(Cd q (l.drop q)).1.w.length by omega];rw[show q+(Cd q (l.drop q)).1.w.length+skF false (l.drop (q+(Cd q (l.drop q)).1.w.length))-d=q-d+(Cd q (l.drop q)).1.w.length+skF false (l.drop (q+(Cd q (l.drop q)).1.w.length)) by omega] at this;exact this
def Ahg:∀(s:By) (b:Bool) (n:Nat),skF b (s.take n)=min n (skF b s):=by
 intro s
 induction s with
 |nil=>intro b n;cases b<;>simp[skF]
 |cons c r ih=>
  intro b n;cases n with
  |zero=>cases b<;>simp[skF]
  |succ n=>
   rw[List.take_succ_cons];cases b<;>simp only[skF]<;>(repeat' split)<;>(try rw[ih])<;>omega
def Ahx{P:UInt8->Bool}:∀(r:By) (n:Nat),(r.takeWhile P).length<=n->(r.take n).takeWhile P=r.takeWhile P/\(r.take n).dropWhile P=(r.dropWhile P).take (n-(r.takeWhile P).length):=by
 intro r
 induction r with
 |nil=>intro n _;simp
 |cons c r ih=>
  intro n h;cases hc:P c with
  |false=>
   cases n with
   |zero=>simp[List.takeWhile_cons,List.dropWhile_cons,hc]
   |succ n=>simp[List.takeWhile_cons,List.dropWhile_cons,hc]
  |true=>
   simp only[List.takeWhile_cons,hc,if_true,q_jk] at h;obtain⟨m,rfl⟩:∃m,n=m+1:=⟨n-1,by omega⟩
   obtain⟨h1,h2⟩:=ih m (by omega);simp only[List.take_succ_cons,List.takeWhile_cons,List.dropWhile_cons,hc,if_true,q_jk,h1,h2];exact⟨trivial,by congr 1;omega⟩
def Atk{q n:Nat}{s:By}(ho:(Cd q s).2=true)(hn:(Cd q s).1.w.length<=n):Cd q (s.take n)=Cd q s:=by
 cases s with
 |nil=>simp
 |cons c r=>
  have h1:1<=(Cd q (c::r)).1.w.length:=by
   simp only[Cd] at ho |-
   repeat' split
   all_goals first|(simp;done)|skip
   rename_i a1 a2 a3 a4;rw[if_neg a1,if_neg a2,if_neg a3,if_neg a4] at ho;cases ho
  obtain⟨m,rfl⟩:∃m,n=m+1:=⟨n-1,by omega⟩
  rw[List.take_succ_cons];revert ho hn;simp only[Cd];split
  ·intro _ _;rfl
  split
  ·intro _ _;rfl
  split
  ·intro _ hn;simp only[q_jk] at hn;rw[(Ahx r m (by omega)).1]
  split
  ·intro ho hn;simp only[q_jk] at hn;obtain⟨e1,e2⟩:=Ahx (P:=Ih) r m (by omega);rw[e1,e2];cases hd:r.dropWhile Ih with
   |nil=>simp
   |cons d r2=>
    rw[hd] at ho;cases hm:m-(r.takeWhile Ih).length with
    |zero=>
     simp only[List.take_zero,q_ky];simp only[q_jl] at ho;rw[ho.1,ho.2];rfl
    |succ j=>simp
  ·intro ho;cases ho
def LxG.pos{l:By}{q:Nat}{t:Tok}{ts:List Tok}{e:Option Nat}(h:LxG l q (t::ts) e):t.p=q:=by
 cases h with
 |tok hq h r=>exact (Mi hq h).2.2.2.1
def LxG.cut{l:By}{q:Nat}{ts:List Tok}{e:Option Nat}(h:LxG l q ts e):∀(m E:Nat),m<ts.length->E<=l.length->(∀k,k<=m->(ts.getD k ⟨0,[],0⟩).p+(ts.getD k ⟨0,[],0⟩).w.length<=E) ->
  E<=(ts.getD m ⟨0,[],0⟩).p+(ts.getD m ⟨0,[],0⟩).w.length+skF false (l.drop ((ts.getD m ⟨0,[],0⟩).p+(ts.getD m ⟨0,[],0⟩).w.length))->LxG (l.take E) q (ts.take (m+1)) none:=by
 induction h with
 |nil=>intro m E hm;simp at hm
 |bad=>intro m E hm;simp at hm
 |@tok q ts e hq h r ih=>
  intro m E hm hE hb hs;obtain⟨w1,w2,w3,w4,_⟩:=Mi hq h;have h0:=hb 0 (Nat.zero_le _);simp only[List.getD_cons_zero,w4] at h0;have Xm:(l.take E).drop q=(l.drop q).take (E-q):=List.drop_take ..;have ho:=Atk (n:=E-q) h (by omega);have e1:Cd q ((l.take E).drop q)=Cd q (l.drop q):=by rw[Xm,ho]
  rw[List.take_succ_cons];have Bf:(l.take E).length=E:=by rw[q_kf];omega
  have key:LxG (l.take E) (q+(Cd q (l.drop q)).1.w.length+skF false ((l.take E).drop (q+(Cd q (l.drop q)).1.w.length))) (ts.take m) none:=by
   rw[List.drop_take,Ahg];cases m with
   |zero=>
    simp only[List.getD_cons_zero,w4] at hs;rw[List.take_zero,show q+(Cd q (l.drop q)).1.w.length+min (E-(q+(Cd q (l.drop q)).1.w.length)) (skF false (l.drop (q+(Cd q (l.drop q)).1.w.length)))=(l.take E).length by omega];exact .nil
   |succ m=>
    have hi:=ih m E (by simpa using hm) hE (fun k hk=>by simpa using hb (k+1) (by omega)) (by simpa using hs);have Eh:=hb 1 (by omega);cases ts with
    |nil=>simp at hm
    |cons t2 ts2=>
     have hp:=r.pos;simp only[List.getD_cons_succ,List.getD_cons_zero,hp] at Eh;rw[Nat.min_eq_right (by omega)];exact hi
  have:=LxG.tok (l:=l.take E) (q:=q) (ts:=ts.take m) (e:=none) (by omega) (by rw[e1];exact h) (by rw[e1];exact key);rw[e1] at this;exact this
def LxG.one{l:By}{q:Nat}{ts ts':List Tok}{e e':Option Nat}(h:LxG l q ts e)(h':LxG l q ts' e'):ts=ts'/\e=e':=by
 induction h generalizing ts' e' with
 |nil=>
  generalize hl:l.length=n at h';cases h' with
  |nil=>exact⟨rfl,rfl⟩
  |bad hq=>omega
  |tok hq=>omega
 |@bad q hq h=>
  cases h' with
  |nil=>omega
  |bad=>exact⟨rfl,rfl⟩
  |tok _ h2=>rw[h] at h2;cases h2
 |@tok q ts e hq h r ih=>
  generalize hl:q=q2 at h';cases h' with
  |nil=>omega
  |bad _ h2=>subst hl;rw[h] at h2;cases h2
  |tok _ h2 r2=>
   subst hl;obtain⟨rfl,rfl⟩:=ih r2;exact⟨rfl,rfl⟩
def LxG.noblank{l:By}{q:Nat}{t:Tok}{ts:List Tok}{e:Option Nat}(h:LxG l q (t::ts) e):skF false (l.drop q)=0:=by
 cases h with
 |tok hq h r=>
  rw[sk_f hq];rw[Kg hq,Cd] at h;have hcc:(l.getD q 0).toNat=chN l q:=rfl;rw[hcc] at h
  by_cases c1:chN l q=32\/chN l q=9\/chN l q=10\/chN l q=59
  ·exfalso;have a1:¬chN l q=40:=by omega
   have a2:¬chN l q=41:=by omega
   have a3:Lh (chN l q)=false:=by unfold Lh;simp;omega
   have a4:Hz (chN l q)=false:=by unfold Hz;simp;omega
   rw[if_neg a1,if_neg a2,a3,a4] at h;cases h
  ·rw[if_neg (by omega),if_neg (by omega)]
def LxG.all{l:By}{t:Tok}{ts:List Tok}{e:Option Nat}(h:LxG l 0 (t::ts) e):Bs l=(t::ts,e):=by
 have h1:=Li l;have hz:=h.noblank;rw[List.drop_zero] at hz;rw[hz] at h1;obtain⟨e1,e2⟩:=h.one h1;exact Prod.ext e1.symm e2.symm
def tk0:Tok:=⟨0,[],0⟩
def LxG.stop{l:By}{q:Nat}{ts:List Tok}{e:Option Nat}(h:LxG l q ts e)(ht:ts=[]):q=e.getD l.length:=by
 cases h with
 |nil=>rfl
 |bad=>rfl
 |tok=>cases ht
def LxG.wpos{l:By}{q:Nat}{t:Tok}{ts:List Tok}{e:Option Nat}(h:LxG l q (t::ts) e):1<=t.w.length:=by
 cases h with
 |tok hq h r=>exact (Mi hq h).1
def LxG.dropk{l:By}{q:Nat}{ts:List Tok}{e:Option Nat}(h:LxG l q ts e):∀k,k<ts.length->LxG l (ts.getD k tk0).p (ts.drop k) e:=by
 induction h with
 |nil=>intro k hk;simp at hk
 |bad=>intro k hk;simp at hk
 |@tok q ts e hq h r ih=>
  intro k hk;cases k with
  |zero=>
   have h2:=LxG.tok hq h r;have:=h2.pos;simp only[List.getD_cons_zero,List.drop_zero];rw[this];exact h2
  |succ k=>
   have:=ih k (by simpa using hk);simpa using this
def LxG.ends{l:By}{q:Nat}{ts:List Tok}{e:Option Nat}(h:LxG l q ts e):q<=e.getD l.length/\∀k,k<ts.length->q<=(ts.getD k tk0).p/\(ts.getD k tk0).p+(ts.getD k tk0).w.length<=e.getD l.length:=by
 induction h with
 |nil=>exact⟨q_ja _,fun k hk=>by simp at hk⟩
 |bad hq h=>exact⟨q_ja _,fun k hk=>by simp at hk⟩
 |@tok q ts e hq h r ih=>
  obtain⟨w1,w2,w3,w4,_⟩:=Mi hq h;refine⟨by omega,fun k hk=>?_⟩;cases k with
  |zero=>simp only[List.getD_cons_zero,w4];omega
  |succ k=>
   have:=ih.2 k (by simpa using hk);simp only[List.getD_cons_succ];omega
def LxG.last{l:By}{q:Nat}{ts:List Tok}{e:Option Nat}(h:LxG l q ts e):0<ts.length->(ts.getD (ts.length-1) tk0).p+(ts.getD (ts.length-1) tk0).w.length+skF false (l.drop ((ts.getD (ts.length-1) tk0).p+(ts.getD (ts.length-1) tk0).w.length))=e.getD l.length:=by
 induction h with
 |nil=>intro h;simp at h
 |bad=>intro h;simp at h
 |@tok q ts e hq h r ih=>
  intro _;obtain⟨w1,w2,w3,w4,_⟩:=Mi hq h;cases ts with
  |nil=>
   simp only[q_jk,List.length_nil,q_jg,Nat.sub_self,List.getD_cons_zero,w4];exact r.stop rfl
  |cons t ts=>
   have:=ih (by simp);simpa using this
def LxG.order{l:By}{q:Nat}{ts:List Tok}{e:Option Nat}(h:LxG l q ts e){k k':Nat}(h1:k<=k')(h2:k'<ts.length):(ts.getD k tk0).p<=(ts.getD k' tk0).p:=by
 have h3:=(h.dropk k (by omega)).ends.2 (k'-k) (by rw[q_kg];omega);have e:(ts.drop k).getD (k'-k) tk0=ts.getD k' tk0:=by
  simp only[q_j,q_kj];rw[show k+(k'-k)=k' by omega]
 rw[e] at h3;exact h3.1
def Af2{l:By}{ts:List Tok}{p:Nat}(h:Bs l=(ts,some p)):Bs (l.take p)=(ts,none):=by
 have h1:=Li l;rw[h] at h1;simp only at h1;have hp:=h1.le.2.2 p rfl;have Bf:(l.take p).length=p:=by rw[q_kf];omega
 have h2:=Li (l.take p);rw[Ahg] at h2;cases ts with
 |nil=>
  have hz:=h1.stop rfl;simp only[q_jz] at hz;rw[hz,Nat.min_self] at h2;have h3:LxG (l.take p) p [] none:=by
   have:=LxG.nil (l:=l.take p)
   rwa [Bf] at this
  obtain⟨e1,e2⟩:=h3.one h2;exact Prod.ext e1.symm e2.symm
 |cons t ts=>
  have hend:=h1.ends.2;have Dj:=h1.pos;have h0:=hend 0 (by simp);simp only[List.getD_cons_zero,q_jz] at h0;have hw:=h1.wpos;rw[Nat.min_eq_right (show skF false l<=p by omega)] at h2;have h3:=h1.cut ts.length p (by simp) (by omega) (fun k hk=>by have:=hend k (by simp;omega);simp only[q_jz] at this;exact this.2) (by
   have:=h1.last (by simp);simp only[q_jk,Nat.add_sub_cancel,q_jz] at this;unfold tk0 at this;exact Nat.le_of_eq this.symm)
  rw[q_js (show (t::ts).length<=ts.length+1 by simp)] at h3;obtain⟨e1,e2⟩:=h3.one h2;exact Prod.ext e1.symm e2.symm
def qc_L(tx:By):(qcR tx).L=(Bs tx).1/\(qcR tx).tx=tx/\(qcR tx).e=((Bs tx).2).getD tx.length:=by
 unfold qcR De;cases h:Bs tx with
 |mk ts e=>
  cases e with
  |none=>simp
  |some p=>simp[Af2 h]
def Au2:∀(l:List Tok) (i d q:Nat),Oe l i d=some q->i<q/\q<=i+l.length:=by
 intro l
 induction l with
 |nil=>intro i d q h;cases h
 |cons t r ih=>
  intro i d q h;rw[Oe] at h
  by_cases hc:(if t.k=1 then d+1 else if t.k=2 then d-1 else d)=0
  ·rw[if_pos hc] at h;cases h;simp
  ·rw[if_neg hc] at h;have:=ih _ _ _ h;rw[q_jk];omega
def Ars{tx:By}{k:Nat}(hk:k<(Bs tx).1.length):Bs (tx.drop ((Bs tx).1.getD k tk0).p)=(((Bs tx).1.drop k).map (Tok.back ((Bs tx).1.getD k tk0).p),((Bs tx).2).map (· - ((Bs tx).1.getD k tk0).p)):=by
 have h:=(Li tx).dropk k hk;have h2:=h.back _ (q_ja _);rw[Nat.sub_self] at h2;cases hd:(Bs tx).1.drop k with
 |nil=>have:=congrArg List.length hd;rw[q_kg,List.length_nil] at this;omega
 |cons t ts=>
  rw[hd] at h2;rw[q_h] at h2 |-;exact h2.all
def Arr{tx:By}{k q:Nat}(hk:k<q)(hq:q<=(Bs tx).1.length) :
  Bs ((tx.drop ((Bs tx).1.getD k tk0).p).take (((Bs tx).1.getD (q-1) tk0).p+((Bs tx).1.getD (q-1) tk0).w.length-((Bs tx).1.getD k tk0).p))=((((Bs tx).1.drop k).take (q-k)).map (Tok.back ((Bs tx).1.getD k tk0).p),none):=by
 have hx:=Li tx;generalize Bs tx=R at *
 obtain⟨ts,e⟩:=R;simp only at *
 have h:=hx.dropk k (by omega);have h2:=h.back _ (q_ja _);rw[Nat.sub_self] at h2;have hP:=hx.order (k:=k) (k':=q-1) (by omega) (by omega);have hE:=hx.ends.2;generalize hpp:(ts.getD k tk0).p=P at *
 have hgd:∀y,y<(ts.drop k).length->((ts.drop k).map (Tok.back P)).getD y tk0=(ts.getD (k+y) tk0).back P:=fun y hy=>by
  have hy2:k+y<ts.length:=by rw[q_kg] at hy;omega
  simp only[q_j,q_ji,q_kj,q_f hy2,q_jh,q_jz]
 have hl:e.getD tx.length<=tx.length:=by
  cases e with
  |none=>exact q_ja _
  |some p=>have:=hx.le.2.2 p rfl;simp only[q_jz];omega
 have h3:=h2.cut (q-k-1) ((ts.getD (q-1) tk0).p+(ts.getD (q-1) tk0).w.length-P) (by simp;omega) (by
   have:=hE (q-1) (by omega);rw[q_kg];omega) (fun y hy=>by
   have e1:=hgd y (by rw[q_kg];omega);unfold tk0 at e1;rw[e1];show (ts.getD (k+y) _).p-P+(ts.getD (k+y) _).w.length<=_;have a1:=hx.order (k:=k) (k':=k+y) (by omega) (by omega);rw[hpp] at a1;have a2:(ts.getD (k+y) tk0).p+(ts.getD (k+y) tk0).w.length<=(ts.getD (q-1) tk0).p+(ts.getD (q-1) tk0).w.length:=by
    rcases q_jo (k+y) (q-1) with h'|h'
    ·-- the next word begins behind it
     have b1:=(hx.dropk (k+y) (by omega))
     have b2:∀{q ts e},LxG tx q ts e->1<ts.length->(ts.getD 0 tk0).p+(ts.getD 0 tk0).w.length<=(ts.getD 1 tk0).p:=fun {q ts e} hh Az=>by
      cases hh with
      |nil=>simp at Az
      |bad=>simp at Az
      |tok hq h r=>
       have:=(Mi hq h).2.2.2.1;have r1:=r.ends.2 0 (by simpa using Az);simp only[List.getD_cons_zero,List.getD_cons_succ,this];omega
     have b3:=b2 b1 (by rw[q_kg];omega);have e2:∀z,(ts.drop (k+y)).getD z tk0=ts.getD (k+y+z) tk0:=fun z=>by simp[q_j,q_kj]
     rw[e2,e2] at b3;have b4:=hx.order (k:=k+y+1) (k':=q-1) (by omega) (by omega);simp only[q_jp] at b3;omega
    ·have:k+y=q-1:=by omega
     rw[this];exact q_ja _
   unfold tk0 at a1 a2;unfold tk0;omega) (by
   have e1:=hgd (q-k-1) (by rw[q_kg];omega);unfold tk0 at e1;rw[e1,show k+(q-k-1)=q-1 by omega];show _<=(ts.getD (q-1) _).p-P+(ts.getD (q-1) _).w.length+_;unfold tk0 at hP;unfold tk0;omega)
 rw[show q-k-1+1=q-k by omega,<-List.map_take] at h3;cases hd:(ts.drop k).take (q-k) with
 |nil=>have:=congrArg List.length hd;rw[q_kf,q_kg,List.length_nil] at this;omega
 |cons t r=>
  rw[hd] at h3;rw[q_h] at h3 |-;exact h3.all
def af125:AF:=⟨101,[(.cell 8 true 5),(.t 9),(.t 10)],(Ab [oP 8 Ej,oP 9 (.mv (cI 0)),oP 10 (.mv (cI 0))] (.seq (Ab [Aa 16 2,oP 17 (Bg .lss 16 0),Aa 18 17,oG 19 18 false 0 (mT 2),oG 20 18 false 0 (Bg .gtr 19 1000),oP 21 (Db 18 20),Aa 22 21,oG 23 22 false 0 (mT 3),oG 24 22 false 0 (Bg .lss 23 0),oP 25 (Db 22 24),Aa 26 25,oG 27 26 false 0 (mT 3),oG 28 26 false 0 (Bg .gtr 27 1000),oP 29 (Db 26 28)] (Ag 29 (Ab [oP 30 (Hl []),oN (Bd 5 8 30),oP 9 (.mv (cI 1)),oP 10 (.mv (cI 0))] .ret) .skip)) (Ab [Aa 31 0,oP 32 (.len true (.t 31)),Aa 33 1,Aa 34 2,Aa 35 3,oP 36 (.build [.nils,(iS 0),(iS 0),.nils,(iS 0),(iS 0),(.bool false),(iS 0)] [(2,(1,(.t 32))),(3,(1,(.t 33))),(4,(1,(.t 34))),(5,(1,(.t 35)))]),oP 37 (.boxg (.t 36)),Aa 11 37] (Ab [Aa 39 0,oP 40 (.call 39 [(.t 39)]),Aa 38 40,oP 41 (.ext (.t 38) 0),oP 42 (.ext (.t 38) 1),oP 43 (.ext (.t 38) 2),Aa 12 41,Aa 13 42,Aa 14 43] (.seq (Ab [Aa 44 13,oP 45 (Bg .neq 44 0)] (Ag 45 (Ab [Aa 46 11,Aa 47 14,oP 48 (Al 46),oP 49 (Ac 2 48),oN (Bd 1 49 47)] (Bj [Aa 51 0,Aa 52 14,oP 53 (.slc 0 (.t 51) none (some (.t 52))),oP 54 (.call 39 [(.t 53)]),Aa 50 54,oP 55 (.ext (.t 50) 0),oP 56 (.ext (.t 50) 1),oP 57 (.ext (.t 50) 2),Aa 12 55])) .skip)) (Ab [Aa 58 11,Aa 59 12,oP 60 (Al 58),oP 61 (Ac 0 60),oN (Bd 1 61 59)] (Ab [Aa 62 11,oP 63 (.hcall 155 [(.t 62),(cI 0)]),oP 15 Ej,oN (Bd 5 15 63)] (.seq (Cl [Aa 64 11,oI 65 1 (Al 64),oI 66 2 (Ac 6 65),oI 67 3 (Af 66),oI 68 4 (.un .not (.t 67)),oI 69 5 (mT 68),oG 70 69 true 6 (mT 11),oG 71 69 true 7 (Al 70),oG 72 69 true 8 (Ac 1 71),oG 73 69 true 9 (Af 72),oG 74 69 true 10 (mT 11),oG 75 69 true 11 (Al 74),oG 76 69 true 12 (Ac 0 75),oG 77 69 true 13 (Af 76),oG 78 69 true 14 (.len false (.t 77)),oG 79 69 true 15 (Ch .lss 73 78),oG 80 69 true 16 (mT 79),oG 81 80 false 17 (mT 13),oG 82 80 false 18 (Bg .neq 81 0),oG 83 69 true 19 (Db 80 82),oI 84 20 (Cf 69 83)] (Ag 84 (Bj [Aa 85 11,Aa 86 11,oP 87 (Al 86),oP 88 (Ac 1 87),oP 89 (Af 88),oP 90 (.hcall 156 [(.t 85),(.t 89)])]) .skip)) (.seq (Ab [Aa 91 11,oP 92 (Al 91),oP 93 (Ac 6 92),oP 94 (Af 93)] (Ag 94 (Cl [oP 95 (Hl []),oI 96 1 (mT 11),oI 97 2 (Al 96),oI 98 3 (Ac 7 97),⟨(some 99),(Af 98),none,4,true,[]⟩,⟨none,(Bd 5 8 95),none,5,false,[4]⟩,oI 9 6 (.mv (cI 2)),oI 10 7 (mT 99)] .ret) .skip)) (Ab [oP 100 (Am 5 15),oN (Bd 5 8 100),oP 9 (.mv (cI 0)),oP 10 (.mv (cI 0))] .ret))))))))))⟩
def tr125:trF Tryz.prog Tryz.f125=some af125:=by kernel_rfl
attribute [go_sem] af125
def af155:AF:=⟨94,[(.cell 4 true 5)],(Ab [oP 4 Ej] (.seq (.blk 0 (Ab [Aa 9 0,oP 10 (Al 9),oP 11 (Ac 6 10),oP 12 (Af 11),Aa 8 12] (Ag 8 (Ab [oP 13 (Hl []),oN (Bd 5 4 13)] .ret) (Cl [Aa 15 0,oI 16 1 (Al 15),oI 17 2 (Ac 1 16),oI 18 3 (Af 17),oI 19 4 (mT 0),oI 20 5 (Al 19),oI 21 6 (Ac 0 20),oI 22 7 (Af 21),oI 23 8 (.len false (.t 22)),oI 24 9 (Ch .geq 18 23),oI 14 10 (mT 24)] (Ag 14 (Ab [Aa 25 0,Aa 26 0,oP 27 (Al 26),oP 28 (Ac 1 27),oP 29 (Af 28),oP 30 (.hcall 156 [(.t 25),(.t 29)])] (Ab [oP 31 (Hl []),oN (Bd 5 4 31)] .ret)) (Cl [Aa 33 0,oI 34 1 (Al 33),oI 35 2 (Ac 0 34),oI 36 3 (Af 35),oI 37 4 (mT 0),oI 38 5 (Al 37),oI 39 6 (Ac 1 38),oI 40 7 (Af 39),oI 41 8 (.iad 3 (.t 36) (.t 40)),oI 42 9 (Ac 0 41),oI 43 10 (Af 42),oI 44 11 (As 43 3),oI 32 12 (mT 44)] (Ag 32 (Ab [Aa 45 0,oP 46 (.hcall 187 [(.t 45)]),oN (Bd 5 4 46)] .ret) .skip))))))) (Ab [Aa 47 0,oP 48 (.hcall 188 [(.t 47),(cI 1)])] (Ab [Aa 49 0,oP 50 (Al 49),oP 51 (Ac 1 50),oP 52 (Af 51),Aa 5 52] (Ab [Aa 54 0,oP 55 (.hcall 188 [(.t 54),(cI 3)]),oP 56 (.call 189 [(.t 55)]),Aa 53 56,oP 57 (.ext (.t 53) 0),oP 58 (.ext (.t 53) 1),Aa 6 57,Aa 7 58] (.seq (Ab [Aa 59 0,oP 60 (Al 59),oP 61 (Ac 6 60),oP 62 (Af 61)] (Ag 62 (Ab [oP 63 (Hl []),oN (Bd 5 4 63)] .ret) .skip)) (.seq (Ab [Aa 64 6,oP 65 (As 64 0),Aa 66 65,oG 67 66 false 0 (mT 1),oG 68 66 false 0 (As 67 1),oG 69 66 false 0 (mT 68),oG 70 69 true 0 (mT 6),oG 71 69 true 0 (Bg .gtr 70 12),oG 72 66 false 0 (Cf 69 71),oP 73 (Db 66 72),Aa 74 73,oG 75 74 false 0 (mT 1),oG 76 74 false 0 (As 75 2),oG 77 74 false 0 (mT 76),oG 78 77 true 0 (mT 6),oG 79 77 true 0 (Bg .gtr 78 2),oG 80 74 false 0 (Cf 77 79),oG 81 74 false 0 (mT 80),oG 82 81 true 0 (mT 6),oG 83 81 true 0 (Bg .leq 82 12),oG 84 74 false 0 (Cf 81 83),oP 85 (Db 74 84)] (Ag 85 (Ab [Aa 86 0,Aa 87 5,oP 88 (.hcall 156 [(.t 86),(.t 87)])] (Ab [oP 89 (Hl []),oN (Bd 5 4 89)] .ret)) .skip)) (Ab [Aa 90 0,Aa 91 6,Aa 92 7,oP 93 (.hcall 190 [(.t 90),(.t 91),(.t 92)]),oN (Bd 5 4 93)] .ret))))))))⟩
def tr155:trF Tryz.prog Tryz.f155=some af155:=by kernel_rfl
attribute [go_sem] af155
def af156:AF:=⟨36,[],(.seq (Ab [Aa 4 0,oP 5 (Al 4),oP 6 (Ac 6 5),oP 7 (Af 6)] (Ag 7 .ret .skip)) (Ab [Aa 8 0,Aa 9 0,Aa 10 0,oP 11 (Al 10),oP 12 (Ac 2 11),oP 13 (Af 12),oP 14 (Al 8),oP 15 (Ac 6 14),oN (.store 1 (.t 15) (cB true)),oP 16 (Al 9),oP 17 (Ac 7 16),oN (Bd 1 17 13)] (Ab [Aa 18 1,Aa 19 0,oP 20 (Al 19),oP 21 (Ac 0 20),oP 22 (Af 21),oP 23 (.len false (.t 22)),oP 24 (Ch .lss 18 23)] (Ag 24 (Bj [Aa 25 0,Aa 26 0,oP 27 (Al 26),oP 28 (Ac 0 27),oP 29 (Af 28),Aa 30 1,oP 31 (.iad 3 (.t 29) (.t 30)),oP 32 (Ac 2 31),oP 33 (Af 32),oP 34 (Al 25),oP 35 (Ac 7 34),oN (Bd 1 35 33)]) .skip))))⟩
def tr156:trF Tryz.prog Tryz.f156=some af156:=by kernel_rfl
attribute [go_sem] af156
def af187:AF:=⟨56,[(.cell 2 true 5)],(Ab [oP 2 Ej] (.seq (Ab [Aa 4 0,oP 5 (Al 4),oP 6 (Ac 3 5),oP 7 (Af 6),oP 8 (.len false (.t 7)),oP 9 (Bg .sub 8 1),Aa 3 9] (.blk 0 (.loop (.seq (Ab [Aa 10 3,oP 11 (Bg .geq 10 0)] (Ez 11 0)) (.seq (.blk 1 (Cl [Aa 14 0,oI 15 1 (Al 14),oI 16 2 (Ac 3 15),oI 17 3 (Af 16),oI 18 4 (mT 3),oI 19 5 (.iad 1 (.t 17) (.t 18)),oI 20 6 (Af 19),oI 21 7 (mT 0),oI 22 8 (Al 21),oI 23 9 (Ac 0 22),oI 24 10 (Af 23),oI 25 11 (mT 0),oI 26 12 (Al 25),oI 27 13 (Ac 1 26),oI 28 14 (Af 27),oI 29 15 (.iad 3 (.t 24) (.t 28)),oI 30 16 (Ac 1 29),oI 31 17 (Af 30),oI 32 18 (.bin 4 .eql (.t 20) (.t 31))] (Ag 32 (Ab [Aa 33 0,oP 34 (Al 33),oP 35 (Ac 1 34),oP 36 (Af 35),oP 37 (Bg .add 36 1),oP 38 (Al 33),oP 39 (Ac 1 38),oN (Bd 1 39 37)] (Ab [Aa 40 0,oP 41 (Al 40),oP 42 (Ac 3 41),oP 43 (Af 42),oP 44 (.len false (.t 43)),oP 45 (Bg .sub 44 1),Aa 46 3,oP 47 (Ch .sub 45 46),oP 48 (Hl [(0,(1,(cI 2))),(1,(1,(.t 47)))]),oN (Bd 5 2 48)] .ret)) .skip))) (Bj [Aa 12 3,oP 13 (Bg .sub 12 1),Aa 3 13])))))) (Ab [Aa 49 0,Aa 50 0,oP 51 (Al 50),oP 52 (Ac 1 51),oP 53 (Af 52),oP 54 (.hcall 156 [(.t 49),(.t 53)])] (Ab [oP 55 (Hl []),oN (Bd 5 2 55)] .ret))))⟩
def tr187:trF Tryz.prog Tryz.f187=some af187:=by kernel_rfl
attribute [go_sem] af187
def af188:AF:=⟨61,[(.t 4)],(Ab [oP 4 (.mv (Be []))] (.seq (Cl [Aa 5 0,oI 6 1 (Al 5),oI 7 2 (Ac 6 6),oI 8 3 (Af 7),oI 9 4 (mT 8),oG 10 9 false 5 (mT 0),oG 11 9 false 6 (Al 10),oG 12 9 false 7 (Ac 1 11),oG 13 9 false 8 (Af 12),oG 14 9 false 9 (mT 0),oG 15 9 false 10 (Al 14),oG 16 9 false 11 (Ac 0 15),oG 17 9 false 12 (Af 16),oG 18 9 false 13 (.len false (.t 17)),oG 19 9 false 14 (Ch .geq 13 18),oI 20 15 (Db 9 19),oI 21 16 (mT 20),oG 22 21 false 17 (mT 0),oG 23 21 false 18 (Al 22),oG 24 21 false 19 (Ac 0 23),oG 25 21 false 20 (Af 24),oG 26 21 false 21 (mT 0),oG 27 21 false 22 (Al 26),oG 28 21 false 23 (Ac 1 27),oG 29 21 false 24 (Af 28),oG 30 21 false 25 (.iad 3 (.t 25) (.t 29)),oG 31 21 false 26 (Ac 0 30),oG 32 21 false 27 (Af 31),oG 33 21 false 28 (mT 1),oG 34 21 false 29 (Ch .neq 32 33),oI 35 30 (Db 21 34)] (Ag 35 (Ab [Aa 36 0,Aa 37 0,oP 38 (Al 37),oP 39 (Ac 1 38),oP 40 (Af 39),oP 41 (.hcall 156 [(.t 36),(.t 40)])] (Ab [oP 4 (.mv (Be []))] .ret)) .skip)) (Ab [Aa 42 0,oP 43 (Al 42),oP 44 (Ac 1 43),oP 45 (Af 44),oP 46 (Bg .add 45 1),oP 47 (Al 42),oP 48 (Ac 1 47),oN (Bd 1 48 46)] (Cl [Aa 49 0,oI 50 1 (Al 49),oI 51 2 (Ac 0 50),oI 52 3 (Af 51),oI 53 4 (mT 0),oI 54 5 (Al 53),oI 55 6 (Ac 1 54),oI 56 7 (Af 55),oI 57 8 (Bg .sub 56 1),oI 58 9 (.iad 3 (.t 52) (.t 57)),oI 59 10 (Ac 1 58),oI 60 11 (Af 59),oI 4 12 (mT 60)] .ret))))⟩
def tr188:trF Tryz.prog Tryz.f188=some af188:=by kernel_rfl
attribute [go_sem] af188
def af189:AF:=⟨31,[(.t 2),(.t 3)],(Ab [oP 2 (.mv (cI 0)),oP 3 (.mv (Be []))] (.seq (Ab [Aa 4 0] (.blk 0 (Ab [oP 6 (.bin 4 .eql (.t 4) (Be [115,111,114,116])),Aa 5 6] (Ag 5 (Ab [oP 2 (.mv (cI 1)),oP 3 (.mv (Be [76]))] .ret) (Ab [oP 8 (.bin 4 .eql (.t 4) (Be [112,105])),Aa 7 8] (Ag 7 (Ab [oP 2 (.mv (cI 3)),oP 3 (.mv (Be [76,77,120,116,98]))] .ret) (Ab [oP 10 (.bin 4 .eql (.t 4) (Be [108,97,109])),Aa 9 10] (Ag 9 (Ab [oP 2 (.mv (cI 4)),oP 3 (.mv (Be [76,77,120,116,98,98]))] .ret) (Ab [oP 12 (.bin 4 .eql (.t 4) (Be [97,112,112])),Aa 11 12] (Ag 11 (Ab [oP 2 (.mv (cI 5)),oP 3 (.mv (Be [76,77,120,116,98,116,116]))] .ret) (Ab [oP 14 (.bin 4 .eql (.t 4) (Be [115,105,103])),Aa 13 14] (Ag 13 (Ab [oP 2 (.mv (cI 6)),oP 3 (.mv (Be [76,77,120,116,98]))] .ret) (Ab [oP 16 (.bin 4 .eql (.t 4) (Be [112,97,105,114])),Aa 15 16] (Ag 15 (Ab [oP 2 (.mv (cI 7)),oP 3 (.mv (Be [76,77,120,116,98,116,116]))] .ret) (Ab [oP 18 (.bin 4 .eql (.t 4) (Be [102,115,116])),Aa 17 18] (Ag 17 (Ab [oP 2 (.mv (cI 8)),oP 3 (.mv (Be [76,77,120,116,98,116]))] .ret) (Ab [oP 20 (.bin 4 .eql (.t 4) (Be [115,110,100])),Aa 19 20] (Ag 19 (Ab [oP 2 (.mv (cI 9)),oP 3 (.mv (Be [76,77,120,116,98,116]))] .ret) (Ab [oP 22 (.bin 4 .eql (.t 4) (Be [101,113])),Aa 21 22] (Ag 21 (Ab [oP 2 (.mv (cI 10)),oP 3 (.mv (Be [76,116,116,116]))] .ret) (Ab [oP 24 (.bin 4 .eql (.t 4) (Be [114,101,102,108])),Aa 23 24] (Ag 23 (Ab [oP 2 (.mv (cI 11)),oP 3 (.mv (Be [76,116,116]))] .ret) (Ab [oP 26 (.bin 4 .eql (.t 4) (Be [116,114])),Aa 25 26] (Ag 25 (Ab [oP 2 (.mv (cI 12)),oP 3 (.mv (Be [76,116,116,112,116]))] .ret) .skip)))))))))))))))))))))))) (Ab [Aa 27 0,oP 28 (.call 212 [(.t 27)]),oP 29 (.ext (.t 28) 0),oP 30 (.ext (.t 28) 1),Aa 2 29,Aa 3 30] .ret)))⟩
def tr189:trF Tryz.prog Tryz.f189=some af189:=by kernel_rfl
attribute [go_sem] af189
def af212:AF:=⟨27,[(.t 2),(.t 3)],(Ab [oP 2 (.mv (cI 0)),oP 3 (.mv (Be []))] (.seq (Ab [Aa 4 0] (.blk 0 (Ab [oP 6 (.bin 4 .eql (.t 4) (Be [80,105])),Aa 5 6] (Ag 5 (Ab [oP 2 (.mv (cI 13)),oP 3 (.mv (Be [120,116,98]))] .ret) (Ab [oP 8 (.bin 4 .eql (.t 4) (Be [76,97,109])),Aa 7 8] (Ag 7 (Ab [oP 2 (.mv (cI 14)),oP 3 (.mv (Be [120,116,98]))] .ret) (Ab [oP 10 (.bin 4 .eql (.t 4) (Be [65,112,112])),Aa 9 10] (Ag 9 (Ab [oP 2 (.mv (cI 15)),oP 3 (.mv (Be [116,116]))] .ret) (Ab [oP 12 (.bin 4 .eql (.t 4) (Be [83,105,103])),Aa 11 12] (Ag 11 (Ab [oP 2 (.mv (cI 16)),oP 3 (.mv (Be [120,116,98]))] .ret) (Ab [oP 14 (.bin 4 .eql (.t 4) (Be [80,97,105,114])),Aa 13 14] (Ag 13 (Ab [oP 2 (.mv (cI 17)),oP 3 (.mv (Be [120,116,98,116,116]))] .ret) (Ab [oP 16 (.bin 4 .eql (.t 4) (Be [70,115,116])),Aa 15 16] (Ag 15 (Ab [oP 2 (.mv (cI 18)),oP 3 (.mv (Be [116]))] .ret) (Ab [oP 18 (.bin 4 .eql (.t 4) (Be [83,110,100])),Aa 17 18] (Ag 17 (Ab [oP 2 (.mv (cI 19)),oP 3 (.mv (Be [116]))] .ret) (Ab [oP 20 (.bin 4 .eql (.t 4) (Be [69,113])),Aa 19 20] (Ag 19 (Ab [oP 2 (.mv (cI 20)),oP 3 (.mv (Be [116,116,116]))] .ret) (Ab [oP 22 (.bin 4 .eql (.t 4) (Be [82,101,102,108])),Aa 21 22] (Ag 21 (Ab [oP 2 (.mv (cI 21)),oP 3 (.mv (Be [116,116]))] .ret) (Ab [oP 24 (.bin 4 .eql (.t 4) (Be [74])),Aa 23 24] (Ag 23 (Ab [oP 2 (.mv (cI 22)),oP 3 (.mv (Be [116,116,121,101,80,116,116,116]))] .ret) (Ab [oP 26 (.bin 4 .eql (.t 4) (Be [117,115,101])),Aa 25 26] (Ag 25 (Ab [oP 2 (.mv (cI 23)),oP 3 (.mv (Be [83,76,77]))] .ret) .skip)))))))))))))))))))))))) (Ab [oP 2 (.mv (cI 0)),oP 3 (.mv (Be []))] .ret)))⟩
def tr212:trF Tryz.prog Tryz.f212=some af212:=by kernel_rfl
attribute [go_sem] af212
def af190:AF:=⟨122,[(.cell 6 true 5)],(Ab [oP 6 Ej] (Ab [Aa 12 1,oP 13 (Hl [(0,(1,(.t 12)))]),Aa 14 0,oP 15 (Al 14),oP 16 (Ac 3 15),oP 17 (Af 16),oP 7 Ej,oN (Bd 5 7 13),oP 8 (.mv (cI 2)),Aa 9 17] (Ab [oP 10 (.mv (.c .nils))] (.seq (Ab [Aa 18 1,oP 19 (Bg .leq 18 12)] (Ag 19 (Bj [oP 8 (.mv (cI 1))]) .skip)) (.seq (Ab [oP 11 (.mv (cI 0))] (.blk 0 (.loop (.seq (Ab [Aa 20 11,Aa 21 2,oP 22 (.len true (.t 21)),oP 23 (Ch .lss 20 22),Aa 24 23,oG 25 24 true 0 (mT 0),oG 26 24 true 0 (Al 25),oG 27 24 true 0 (Ac 6 26),oG 28 24 true 0 (Af 27),oG 29 24 true 0 (.un .not (.t 28)),oP 30 (Cf 24 29)] (Ez 30 0)) (.seq (.blk 1 (Ab [Aa 33 2,Aa 34 11,oP 35 (.six (.t 33) (.t 34))] (.blk 2 (Ab [oP 58 (.bin 0 .eql (.t 35) (.c (.int .u8 76))),Aa 57 58] (Ag 57 (Bj [Aa 59 0,oP 60 (.hcall 213 [(.t 59)]),oP 61 (Ac 1 7),oN (Bd 1 61 60)]) (Ab [oP 63 (.bin 0 .eql (.t 35) (.c (.int .u8 77))),Aa 62 63] (Ag 62 (Ab [Aa 64 0,oP 65 (.hcall 213 [(.t 64)]),oP 66 (Ac 2 7),oN (Bd 1 66 65)] (Ab [Aa 67 1,oP 68 (As 67 23)] (Ag 68 (Bj [Aa 69 0,oP 70 (.hcall 214 [(.t 69),(.t 7)])]) .skip))) (Ab [oP 72 (.bin 0 .eql (.t 35) (.c (.int .u8 83))),Aa 71 72] (Ag 71 (Ab [Aa 73 0,oP 74 (.hcall 188 [(.t 73),(cI 3)]),oP 75 (.call 215 [(.t 74)]),oP 76 (Ac 3 7),oN (Bd 1 76 75)] (Ab [oP 77 (Ac 3 7),oP 78 (Af 77),oP 79 (As 78 0)] (Ag 79 (Bj [Aa 80 0,Aa 81 0,oP 82 (Al 81),oP 83 (Ac 1 82),oP 84 (Af 83),oP 85 (Bg .sub 84 1),oP 86 (.hcall 156 [(.t 80),(.t 85)])]) .skip))) (.seq (Ab [oP 88 (.bin 0 .eql (.t 35) (.c (.int .u8 120))),Aa 87 88] (Ag 87 .skip (Ab [oP 89 (.bin 0 .eql (.t 35) (.c (.int .u8 121))),Aa 87 89] (Ag 87 .skip (Bj [oP 90 (.bin 0 .eql (.t 35) (.c (.int .u8 101))),Aa 87 90]))))) (Ag 87 (Bj [Aa 91 10,Aa 92 0,oP 93 (.hcall 188 [(.t 92),(cI 3)]),oP 94 (.bslice 1 [(.t 93)]),oP 95 (.app 1 16 (.t 91) (.t 94)),Aa 10 95]) (Ab [oP 97 (.bin 0 .eql (.t 35) (.c (.int .u8 116))),Aa 96 97] (Ag 96 (.reg [oP 98 (Ac 4 7),⟨(some 99),(Af 98),none,1,true,[]⟩,oI 100 2 (mT 0),oI 101 3 (mT 8),⟨(some 102),(.hcall 155 [(.t 100),(.t 101)]),none,4,true,[1]⟩,oI 103 5 (.len false (.t 99)),⟨(some 104),(.bslice 5 [(.c (.agg true [(iS 0),(iS 0),(iS 0),(iS 0),.nils]))]),none,6,false,[1,4]⟩,oI 105 7 (.app 5 56 (.t 99) (.t 104)),⟨(some 106),(.iad 5 (.t 105) (.t 103)),none,8,true,[]⟩,⟨none,(Bd 5 106 102),none,9,true,[]⟩,oI 107 10 (Ac 4 7),⟨none,(Bd 1 107 105),none,11,false,[8,9]⟩] true) (Ab [oP 109 (.bin 0 .eql (.t 35) (.c (.int .u8 112))),Aa 108 109] (Ag 108 (.reg [oP 110 (Ac 4 7),⟨(some 111),(Af 110),none,1,true,[]⟩,oI 112 2 (mT 0),⟨(some 113),(.hcall 155 [(.t 112),(cI 2)]),none,3,true,[1]⟩,oI 114 4 (.len false (.t 111)),⟨(some 115),(.bslice 5 [(.c (.agg true [(iS 0),(iS 0),(iS 0),(iS 0),.nils]))]),none,5,false,[1,3]⟩,oI 116 6 (.app 5 56 (.t 111) (.t 115)),⟨(some 117),(.iad 5 (.t 116) (.t 114)),none,7,true,[]⟩,⟨none,(Bd 5 117 113),none,8,true,[]⟩,oI 118 9 (Ac 4 7),⟨none,(Bd 1 118 116),none,10,false,[7,8]⟩] true) (Ab [Aa 36 0,Aa 37 9,oP 38 (.app 1 16 (.c .nils) (.t 37)),Aa 39 10,oP 40 (.app 1 16 (.t 38) (.t 39)),oP 41 (Al 36),oP 42 (Ac 3 41),oN (Bd 1 42 40)] (Cl [oP 43 (Ac 4 7),⟨(some 44),(Af 43),none,1,true,[]⟩,oI 45 2 (mT 0),oI 46 3 (mT 8),⟨(some 47),(.hcall 155 [(.t 45),(.t 46)]),none,4,true,[1]⟩,oI 48 5 (.len false (.t 44)),⟨(some 49),(.bslice 5 [(.c (.agg true [(iS 0),(iS 0),(iS 0),(iS 0),.nils]))]),none,6,false,[1,4]⟩,oI 50 7 (.app 5 56 (.t 44) (.t 49)),⟨(some 51),(.iad 5 (.t 50) (.t 48)),none,8,true,[]⟩,⟨none,(Bd 5 51 47),none,9,true,[]⟩,oI 52 10 (Ac 4 7),⟨none,(Bd 1 52 50),none,11,false,[8,9]⟩] (Bj [Aa 53 0,Aa 54 9,oP 55 (Al 53),oP 56 (Ac 3 55),oN (Bd 1 56 54)])))))))))))))))))) (Bj [Aa 31 11,oP 32 (Bg .add 31 1),Aa 11 32])))))) (Ab [Aa 119 0,oP 120 (.hcall 188 [(.t 119),(cI 2)])] (Ab [oP 121 (Am 5 7),oN (Bd 5 6 121)] .ret)))))))⟩
def tr190:trF Tryz.prog Tryz.f190=some af190:=by kernel_rfl
attribute [go_sem] af190
def af213:AF:=⟨131,[(.t 2)],(Ab [oP 2 (.mv (cI 0))] (Ab [Aa 6 0,oP 7 (Al 6),oP 8 (Ac 1 7),oP 9 (Af 8),Aa 3 9] (.seq (Cl [Aa 10 0,oI 11 1 (Al 10),oI 12 2 (Ac 6 11),oI 13 3 (Af 12),oI 14 4 (mT 13),oG 15 14 false 5 (mT 0),oG 16 14 false 6 (Al 15),oG 17 14 false 7 (Ac 1 16),oG 18 14 false 8 (Af 17),oG 19 14 false 9 (mT 0),oG 20 14 false 10 (Al 19),oG 21 14 false 11 (Ac 0 20),oG 22 14 false 12 (Af 21),oG 23 14 false 13 (.len false (.t 22)),oG 24 14 false 14 (Ch .geq 18 23),oI 25 15 (Db 14 24)] (Ag 25 (Ab [Aa 26 0,Aa 27 0,oP 28 (Al 27),oP 29 (Ac 1 28),oP 30 (Af 29),oP 31 (.hcall 156 [(.t 26),(.t 30)])] (Ab [oP 2 (.mv (cI 0))] .ret)) .skip)) (Ab [oP 4 (.mv (cI 0))] (.seq (Cl [Aa 32 0,oI 33 1 (Al 32),oI 34 2 (Ac 0 33),⟨(some 35),(Af 34),none,3,true,[]⟩,oI 36 4 (mT 0),oI 37 5 (Al 36),oI 38 6 (Ac 1 37),⟨(some 39),(Af 38),none,7,true,[]⟩,⟨(some 40),(.iad 3 (.t 35) (.t 39)),none,8,true,[]⟩,⟨(some 41),(Am 3 40),none,9,true,[]⟩,⟨(some 5),(.new [(iS 0),(.str (bs [])),(iS 0)]),none,10,false,[3,7,8,9]⟩,oJ 11 (Bd 3 5 41)] (.blk 0 (Ab [oP 49 (Ac 0 5),oP 50 (Af 49),oP 51 (As 50 4),Aa 48 51] (Ag 48 (Ab [oP 53 (Ac 1 5),oP 54 (Af 53),oP 55 (.call 122 [(.t 54)]),Aa 52 55,oP 56 (.ext (.t 52) 0),oP 57 (.ext (.t 52) 1),Aa 4 56] (Bj [Aa 58 0,oP 59 (Al 58),oP 60 (Ac 1 59),oP 61 (Af 60),oP 62 (Bg .add 61 1),oP 63 (Al 58),oP 64 (Ac 1 63),oN (Bd 1 64 62)])) (Ab [oP 66 (Ac 0 5),oP 67 (Af 66),oP 68 (As 67 3),Aa 69 68,oG 70 69 true 0 (Ac 1 5),oG 71 69 true 0 (Af 70),oG 72 69 true 0 (.bin 4 .eql (.t 71) (Be [105])),oP 73 (Cf 69 72),Aa 65 73] (Ag 65 (Ab [Aa 74 0,oP 75 (Al 74),oP 76 (Ac 4 75),oP 77 (Af 76),Aa 4 77] (Bj [Aa 78 0,oP 79 (Al 78),oP 80 (Ac 1 79),oP 81 (Af 80),oP 82 (Bg .add 81 1),oP 83 (Al 78),oP 84 (Ac 1 83),oN (Bd 1 84 82)])) (Ab [oP 86 (Ac 0 5),oP 87 (Af 86),oP 88 (As 87 3),Aa 89 88,oG 90 89 true 0 (Ac 1 5),oG 91 89 true 0 (Af 90),oG 92 89 true 0 (.bin 4 .eql (.t 91) (Be [106])),oP 93 (Cf 89 92),Aa 85 93] (Ag 85 (Ab [Aa 94 0,oP 95 (Al 94),oP 96 (Ac 5 95),oP 97 (Af 96),Aa 4 97] (Bj [Aa 98 0,oP 99 (Al 98),oP 100 (Ac 1 99),oP 101 (Af 100),oP 102 (Bg .add 101 1),oP 103 (Al 98),oP 104 (Ac 1 103),oN (Bd 1 104 102)])) (Ab [oP 106 (Ac 0 5),oP 107 (Af 106),oP 108 (As 107 1),Aa 105 108] (Ag 105 (Ab [Aa 109 0,oP 110 (Al 109),oP 111 (Ac 1 110),oP 112 (Af 111),oP 113 (Bg .add 112 1),oP 114 (Al 109),oP 115 (Ac 1 114),oN (Bd 1 115 113)] (Bj [Aa 116 0,oP 117 (.hcall 228 [(.t 116)]),Aa 4 117])) (Bj [Aa 42 0,Aa 43 0,oP 44 (Al 43),oP 45 (Ac 1 44),oP 46 (Af 45),oP 47 (.hcall 156 [(.t 42),(.t 46)])]))))))))))) (.seq (Ab [Aa 118 0,oP 119 (Al 118),oP 120 (Ac 6 119),oP 121 (Af 120),oP 122 (.un .not (.t 121)),Aa 123 122,oG 124 123 true 0 (mT 4),oG 125 123 true 0 (Bg .gtr 124 1000),oP 126 (Cf 123 125)] (Ag 126 (Bj [Aa 127 0,Aa 128 3,oP 129 (.hcall 156 [(.t 127),(.t 128)])]) .skip)) (Ab [Aa 130 4,Aa 2 130] .ret)))))))⟩
def tr213:trF Tryz.prog Tryz.f213=some af213:=by kernel_rfl
attribute [go_sem] af213
def af214:AF:=⟨24,[],(Ab [Aa 4 1,oP 5 (Al 4),oP 6 (Ac 3 5),oP 7 (Af 6),oP 8 (.call 90 [(cI 23),(.t 7)]),oP 9 (.mv (cI 0))] (.blk 0 (.loop (Ab [oP 10 (Ch .lss 9 8)] (.seq (Ez 10 0) (.seq (.blk 1 (.reg [Aa 11 1,oI 12 1 (Al 11),oI 13 2 (Ac 4 12),⟨(some 14),(Af 13),none,3,true,[]⟩,oI 15 4 (mT 0),⟨(some 16),(.hcall 155 [(.t 15),(cI 2)]),none,5,true,[3]⟩,oI 17 6 (.len false (.t 14)),⟨(some 18),(.bslice 5 [(.c (.agg true [(iS 0),(iS 0),(iS 0),(iS 0),.nils]))]),none,7,false,[3,5]⟩,oI 19 8 (.app 5 56 (.t 14) (.t 18)),⟨(some 20),(.iad 5 (.t 19) (.t 17)),none,9,true,[]⟩,⟨none,(Bd 5 20 16),none,10,true,[]⟩,oI 21 11 (Al 11),oI 22 12 (Ac 4 21),⟨none,(Bd 1 22 19),none,13,false,[9,10]⟩] true)) (Bj [oP 23 (Bg .add 9 1),Aa 9 23])))))))⟩
def tr214:trF Tryz.prog Tryz.f214=some af214:=by kernel_rfl
attribute [go_sem] af214
def af228:AF:=⟨114,[(.t 2)],(Ab [oP 2 (.mv (cI 0))] (Ab [oP 3 (.mv (cI 0))] (.seq (.blk 0 (Cl [Aa 11 0,oI 12 1 (Al 11),oI 13 2 (Ac 1 12),oI 14 3 (Af 13),oI 15 4 (mT 0),oI 16 5 (Al 15),oI 17 6 (Ac 0 16),oI 18 7 (Af 17),oI 19 8 (.len false (.t 18)),oI 20 9 (Ch .lss 14 19),oI 21 10 (mT 20),oG 22 21 true 11 (mT 0),oG 23 21 true 12 (Al 22),oG 24 21 true 13 (Ac 0 23),oG 25 21 true 14 (Af 24),oG 26 21 true 15 (mT 0),oG 27 21 true 16 (Al 26),oG 28 21 true 17 (Ac 1 27),oG 29 21 true 18 (Af 28),oG 30 21 true 19 (.iad 3 (.t 25) (.t 29)),oG 31 21 true 20 (Ac 0 30),oG 32 21 true 21 (Af 31),oG 33 21 true 22 (As 32 3),oI 34 23 (Cf 21 33),oI 35 24 (mT 34),oG 36 35 true 25 (mT 0),oG 37 35 true 26 (Al 36),oG 38 35 true 27 (Ac 0 37),oG 39 35 true 28 (Af 38),oG 40 35 true 29 (mT 0),oG 41 35 true 30 (Al 40),oG 42 35 true 31 (Ac 1 41),oG 43 35 true 32 (Af 42),oG 44 35 true 33 (.iad 3 (.t 39) (.t 43)),oG 45 35 true 34 (Ac 1 44),oG 46 35 true 35 (Af 45),oG 47 35 true 36 (.bin 4 .eql (.t 46) (Be [115,117,99])),oI 48 37 (Cf 35 47),oI 10 38 (mT 48)] (Ag 10 (Ab [Aa 49 0,oP 50 (Al 49),oP 51 (Ac 1 50),oP 52 (Af 51),oP 53 (Bg .add 52 1),oP 54 (Al 49),oP 55 (Ac 1 54),oN (Bd 1 55 53)] (Bj [Aa 56 0,oP 57 (.hcall 213 [(.t 56)]),oP 58 (Bg .add 57 1),Aa 3 58])) (Cl [Aa 60 0,oI 61 1 (Al 60),oI 62 2 (Ac 1 61),oI 63 3 (Af 62),oI 64 4 (mT 0),oI 65 5 (Al 64),oI 66 6 (Ac 0 65),oI 67 7 (Af 66),oI 68 8 (.len false (.t 67)),oI 69 9 (Ch .lss 63 68),oI 70 10 (mT 69),oG 71 70 true 11 (mT 0),oG 72 70 true 12 (Al 71),oG 73 70 true 13 (Ac 0 72),oG 74 70 true 14 (Af 73),oG 75 70 true 15 (mT 0),oG 76 70 true 16 (Al 75),oG 77 70 true 17 (Ac 1 76),oG 78 70 true 18 (Af 77),oG 79 70 true 19 (.iad 3 (.t 74) (.t 78)),oG 80 70 true 20 (Ac 0 79),oG 81 70 true 21 (Af 80),oG 82 70 true 22 (As 81 3),oI 83 23 (Cf 70 82),oI 84 24 (mT 83),oG 85 84 true 25 (mT 0),oG 86 84 true 26 (Al 85),oG 87 84 true 27 (Ac 0 86),oG 88 84 true 28 (Af 87),oG 89 84 true 29 (mT 0),oG 90 84 true 30 (Al 89),oG 91 84 true 31 (Ac 1 90),oG 92 84 true 32 (Af 91),oG 93 84 true 33 (.iad 3 (.t 88) (.t 92)),oG 94 84 true 34 (Ac 1 93),oG 95 84 true 35 (Af 94),oG 96 84 true 36 (.bin 4 .eql (.t 95) (Be [109,97,120])),oI 97 37 (Cf 84 96),oI 59 38 (mT 97)] (Ag 59 (Ab [Aa 98 0,oP 99 (Al 98),oP 100 (Ac 1 99),oP 101 (Af 100),oP 102 (Bg .add 101 1),oP 103 (Al 98),oP 104 (Ac 1 103),oN (Bd 1 104 102)] (Ab [Aa 105 0,oP 106 (.hcall 213 [(.t 105)]),Aa 3 106] (Bj [Aa 107 3,Aa 108 0,oP 109 (.hcall 213 [(.t 108)]),oP 110 (.mnx true (.t 107) (.t 109)),Aa 3 110]))) (Bj [Aa 4 0,Aa 5 0,oP 6 (Al 5),oP 7 (Ac 1 6),oP 8 (Af 7),oP 9 (.hcall 156 [(.t 4),(.t 8)])])))))) (Ab [Aa 111 0,oP 112 (.hcall 188 [(.t 111),(cI 2)])] (Ab [Aa 113 3,Aa 2 113] .ret)))))⟩
def tr228:trF Tryz.prog Tryz.f228=some af228:=by kernel_rfl
attribute [go_sem] af228
def af215:AF:=⟨18,[(.t 2)],(Ab [oP 2 (.mv (cI 0))] (.seq (Ab [oP 5 (.call 196 []),oP 6 (.len false (.t 5)),oP 7 (.mv (cI 0))] (.blk 0 (.loop (Ab [oP 8 (Ch .lss 7 6)] (.seq (Ez 8 0) (.seq (.blk 1 (Ab [Aa 9 7,oP 10 (.iad 1 (.t 5) (.t 7)),oP 11 (Af 10),Aa 3 9,Aa 4 11] (Ab [Aa 12 4,Aa 13 0,oP 14 (.bin 4 .eql (.t 12) (.t 13))] (Ag 14 (Ab [Aa 15 3,oP 16 (Bg .add 15 1),Aa 2 16] .ret) .skip)))) (Bj [oP 17 (Bg .add 7 1),Aa 7 17]))))))) (Ab [oP 2 (.mv (cI 0))] .ret)))⟩
def tr215:trF Tryz.prog Tryz.f215=some af215:=by kernel_rfl
attribute [go_sem] af215
def af196:AF:=⟨2,[(.t 0)],(Ab [oP 0 (.mv (.c .nils))] (Ab [oP 1 (.bslice 1 [(Be [117,105,112]),(Be [102,117,110,101,120,116]),(Be [115,121,109]),(Be [116,114,97,110,115]),(Be [116,114]),(Be [104,101,116]),(Be [116,121,112]),(Be [116,114,104]),(Be [104,112]),(Be [104,50,101]),(Be [101,50,104]),(Be [114,112]),(Be [99,112,105]),(Be [99,115,105,103]),(Be [99,108,97,109]),(Be [99,97,112,112]),(Be [99,112,97,105,114]),(Be [99,102,115,116]),(Be [99,115,110,100]),(Be [99,101,113]),(Be [99,114,101,102,108])]),Aa 0 1] .ret))⟩
def tr196:trF Tryz.prog Tryz.f196=some af196:=by kernel_rfl
attribute [go_sem] af196
end Go.Proofs.YtgfehkhcmnfpaaaGreatDoor.Abs
