import Derived.Test.YtgfehkhcmnfpaaaGreatDoorIEv
import Derived.Lib.ItoaNum
import Derived.Test.YtgfehkhcmnfpaaaGreatDoorProg
import Derived.KernelRfl
set_option linter.all false
set_option maxRecDepth 20000
set_option maxHeartbeats 4000000
namespace Go.Proofs.YtgfehkhcmnfpaaaGreatDoor.Abs
open Go Go.RowKit
abbrev By:=List UInt8
structure Tok where
 k:Nat
 w:By
 p:Nat
 deriving Inhabited
def De(t:Tok):List SV:=[.int .i64 t.k,.str (bs t.w),.int .i64 t.p]
def Ge(n:Nat):Bool:=(decide (97<=n) && decide (n<=122)) || (decide (65<=n) && decide (n<=90))
def Fv(n:Nat):Bool:=decide (48<=n) && decide (n<=57)
def j8(c:UInt8):Bool:=Ge c.toNat || Fv c.toNat
def Es(w:By):List By->Option Nat
 |[]=>none
 |n::l=>if n==w then some 0 else (Es w l).map (·+1)
def symsL:List By:=[[117,105,112],[102,117,110,101,120,116],[115,121,109],[116,114,97,110,115],[116,114],[104,101,116],[116,121,112],[116,114,104],[104,112],[104,50,101],[101,50,104],[114,112],[99,112,105],[99,115,105,103],[99,108,97,109],[99,97,112,112],[99,112,97,105,114],[99,102,115,116],[99,115,110,100],[99,101,113],[99,114,101,102,108]]
def arN(n:Nat):Nat:=[5,5,4,6,4,4,5,4,5,4,4,6,6,6,9,12,12,9,9,9,6].getD (n-1) 0
def Ir(w:By):List (By×Nat×By)->Option (Nat×By)
 |[]=>none
 |(v,k,s)::l=>if v==w then some (k,s) else Ir w l
def skF:Bool->By->Nat
 |_,[]=>0
 |true,c::r=>if c.toNat=10 then skF false r+1 else skF true r+1
 |false,c::r=>if c.toNat=32\/c.toNat=9\/c.toNat=10 then skF false r+1 else if c.toNat=59 then skF true r+1 else 0
def A1v:∀(s:By) (b:Bool),skF b s<=s.length:=by
 intro s
 induction s with
 |nil=>intro b;cases b<;>simp[skF]
 |cons c r ih=>
  intro b;have h1:=ih true;have h2:=ih false;cases b<;>simp only[skF,q_jk]<;>(repeat' split)<;>omega
def Gs(c:UInt8):Bool:=Fv c.toNat
def Ed(w:By):Nat:=w.foldl (fun n c=>10*n+(c.toNat-48)) 0
def Do(w:By):Option Nat:=
 if w.length=0\/7<w.length then none
 else if w.all Gs then (if 1000000<Ed w\/Lib.itoa (Ed w:Nat)≠w then none else some (Ed w)) else none
def Ck(p:Nat):By->Tok×Bool
 |[]=>(⟨0,[],0⟩,false)
 |c::r=>
  if c.toNat=40 then (⟨1,[40],p⟩,true)
  else if c.toNat=41 then (⟨2,[41],p⟩,true)
  else if Ge c.toNat then (⟨3,c::r.takeWhile j8,p⟩,decide ((r.takeWhile j8).length<20))
  else if Fv c.toNat then (⟨4,c::r.takeWhile Gs,p⟩,(Do (c::r.takeWhile Gs)).isSome && (match r.dropWhile Gs with|[]=>true|d::_=>!Ge d.toNat))
  else (⟨0,[],0⟩,false)
def Ws:Nat->Nat->By->List Tok×Option Nat
 |0,_,_=>([],none)
 |f+1,p,s=>
  match s.drop (skF false s) with
  |[]=>([],none)
  |s'=>if (Ck (p+skF false s) s').2 then
    ((Ck (p+skF false s) s').1::(Ws f (p+skF false s+(Ck (p+skF false s) s').1.w.length) (s'.drop (Ck (p+skF false s) s').1.w.length)).1,(Ws f (p+skF false s+(Ck (p+skF false s) s').1.w.length) (s'.drop (Ck (p+skF false s) s').1.w.length)).2)
   else ([],some (p+skF false s))
def Bi(l:By):List Tok×Option Nat:=Ws (l.length+1) 0 l
structure RC where
 L:List Tok
 e:Nat
 i:Nat
 j:Nat
structure RS where
 k:Nat
 bad:Bool
 at_:Nat
 D:GV
def RC.tk(c:RC)(k:Nat):Tok:=c.L.getD k ⟨0,[],0⟩
def Bl(c:RC)(s:RS)(k:Nat):RS:=if s.bad then s else { s with bad:=true,at_:=if k<c.L.length then (c.tk k).p else c.e }
def RS.nx(s:RS):RS:={ s with k:=s.k+1 }
def Ad(c:RC)(s:RS)(kd:Nat):By×RS:=if s.bad=false/\s.k<c.L.length/\(c.tk s.k).k=kd then ((c.tk s.k).w,s.nx) else ([],Bl c s s.k)
def Fw(c:RC)(lev:RS->Nat×RS)(s:RS):Nat×RS:=
 let q:Nat×RS:=
  if s.k<c.L.length/\(c.tk s.k).k=3/\(c.tk s.k).w=[115,117,99] then ((lev s.nx).1+1,(lev s.nx).2)
  else if s.k<c.L.length/\(c.tk s.k).k=3/\(c.tk s.k).w=[109,97,120] then (max (lev s.nx).1 (lev (lev s.nx).2).1,(lev (lev s.nx).2).2)
  else (0,Bl c s s.k)
 (q.1,(Ad c q.2 2).2)
def Af(c:RC):Nat->RS->Nat×RS
 |0,s=>(0,s)
 |f+1,s=>
  if s.bad=false/\s.k<c.L.length then
   let q:Nat×RS:=
    if (c.tk s.k).k=4 then ((Do (c.tk s.k).w).getD 0,s.nx)
    else if (c.tk s.k).k=3/\(c.tk s.k).w=[105] then (c.i,s.nx)
    else if (c.tk s.k).k=3/\(c.tk s.k).w=[106] then (c.j,s.nx)
    else if (c.tk s.k).k=1 then Fw c (Af c f) s.nx
    else (0,Bl c s s.k)
   (q.1,if q.2.bad=false/\1000<q.1 then Bl c q.2 s.k else q.2)
  else (0,Bl c s s.k)
def zR:Tm:=.mk 0 0 0 0 []
def Iw(c:RC)(ns:List By)(s:RS):Tm×RS:=
 match Es (c.tk s.k).w ns with
 |some n=>(.mk 2 n 0 0 [],s.nx)
 |none=>(zR,Bl c s s.k)
def formsG:List (By×Nat×By):=
 [([115,111,114,116],1,[76]),([112,105],3,[76,77,120,116,98]),([108,97,109],4,[76,77,120,116,98,98]),([97,112,112],5,[76,77,120,116,98,116,116]),([115,105,103],6,[76,77,120,116,98]),([112,97,105,114],7,[76,77,120,116,98,116,116]),([102,115,116],8,[76,77,120,116,98,116]),([115,110,100],9,[76,77,120,116,98,116]),([101,113],10,[76,116,116,116]),([114,101,102,108],11,[76,116,116]),([116,114],12,[76,116,116,112,116]),([80,105],13,[120,116,98]),([76,97,109],14,[120,116,98]),([65,112,112],15,[116,116]),([83,105,103],16,[120,116,98]),([80,97,105,114],17,[120,116,98,116,116]),([70,115,116],18,[116]),([83,110,100],19,[116]),([69,113],20,[116,116,116]),([82,101,102,108],21,[116,116]),([74],22,[116,116,121,101,80,116,116,116]),([117,115,101],23,[83,76,77])]
def Cr(w:By):Nat×By:=(Ir w formsG).getD (0,[])
structure AccR where
 a:Nat:=0
 b:Nat:=0
 n:Nat:=0
 bd:List By:=[]
 l:List Tm:=[]
abbrev TR:=List By->Nat->RS->Tm×RS
def Ec(T:TR)(ns:List By):Nat->RS->List Tm×RS
 |0,s=>([],s)
 |m+1,s=>((T ns 2 s).1::(Ec T ns m (T ns 2 s).2).1,(Ec T ns m (T ns 2 s).2).2)
def ofR(k:Nat):Nat:=if k<=12 then 1 else 2
def Dh(c:RC)(T:TR)(ns:List By)(k:Nat)(ch:UInt8)(x:AccR)(s:RS):AccR×RS:=
 if ch.toNat=76 then ({ x with a:=(Af c (c.L.length+1) s).1 },(Af c (c.L.length+1) s).2)
 else if ch.toNat=77 then
  (if k=23 then
   let q:=Af c (c.L.length+1) s
   let r:=Ec T ns (arN x.n) { q.2 with D:=[] }
   ({ x with b:=q.1,l:=r.1 },{ r.2 with D:=s.D++[.int .i64 23,.int .i64 x.a,.int .i64 q.1,.int .i64 x.n,.dsl 5 (r.1.map tv)]::r.2.D })
  else ({ x with b:=(Af c (c.L.length+1) s).1 },(Af c (c.L.length+1) s).2))
 else if ch.toNat=83 then
  (let q:=Ad c s 3
   match Es q.1 symsL with
    |some n=>({ x with n:=n+1 },q.2)
    |none=>(x,Bl c q.2 (q.2.k-1)))
 else if ch.toNat=120\/ch.toNat=121\/ch.toNat=101 then ({ x with bd:=(Ad c s 3).1::x.bd },(Ad c s 3).2)
 else if ch.toNat=116 then ({ x with l:=x.l++[(T ns (ofR k) s).1] },(T ns (ofR k) s).2)
 else if ch.toNat=112 then ({ x with l:=x.l++[(T ns 2 s).1] },(T ns 2 s).2)
 else ({ x with l:=x.l++[(T (x.bd++ns) (ofR k) s).1] },(T (x.bd++ns) (ofR k) s).2)
def Ds(c:RC)(T:TR)(ns:List By)(k:Nat):By->AccR->RS->AccR×RS
 |[],x,s=>(x,s)
 |ch::r,x,s=>if s.bad then (x,s) else Ds c T ns k r (Dh c T ns k ch x s).1 (Dh c T ns k ch x s).2
def AccR.tm(k:Nat)(x:AccR):Tm:=.mk k x.a x.b x.n x.l
def Ai(c:RC)(T:TR)(ns:List By)(k:Nat)(sh:By)(s:RS):Tm×RS:=
 ((Ds c T ns k sh {} s).1.tm k,(Ad c (Ds c T ns k sh {} s).2 2).2)
def Bw(c:RC):Nat->TR
 |0,_,_,s=>(zR,s)
 |f+1,ns,want,s=>
  if s.bad then (zR,s)
  else if ¬s.k<c.L.length then (zR,Bl c s s.k)
  else if (c.tk s.k).k=3 then Iw c ns s
  else
   let s1:=(Ad c s 1).2
   let q:=Ad c s1 3
   let g:=Cr q.1
   if q.2.bad then (zR,q.2)
   else if g.1=0\/(want=1/\12<g.1)\/(want=2/\2<g.1/\g.1<=12) then (zR,Bl c q.2 s1.k)
   else Ai c (Bw c f) ns g.1 g.2 q.2
def Em(l:By):List Tok:=match Bi l with
 |(ts,none)=>ts
 |(_,some _)=>[]
def rcR(tx:By)(i j:Nat):RC:=match (Bi tx).2 with
 |none=>⟨Em tx,tx.length,i,j⟩
 |some p=>⟨Em (tx.take p),p,i,j⟩
def Gr(tx:By)(ns:List By)(i j:Nat):Tm×Option Nat:=
 let c:=rcR tx i j
 let q:=Bw c (c.L.length+1) ns 0 ⟨0,false,0,[]⟩
 let s:=if q.2.bad=false/\(q.2.k<c.L.length\/(Bi tx).2.isSome) then Bl c q.2 q.2.k else q.2
 if s.bad then (zR,some s.at_) else (q.1,none)
def lqp(S:Nat->St)(n i:Nat)(p:Prop)(Q:AE->St->Prop):AE->St->Prop:=fun e s'=>match e with|.normal=>i<n/\p/\Wk s' (S (i+1))|e=>Q e s'
def Akv{S:Nat->St}{n i:Nat}{p:Prop}{Q:AE->St->Prop}{s:St}:lqp S n i p Q .normal s=(i<n/\p/\Wk s (S (i+1))):=q_z
def Aku{S:Nat->St}{n i j:Nat}{p:Prop}{Q:AE->St->Prop}{s:St}:lqp S n i p Q (.exit j) s=Q (.exit j) s:=q_z
def Akw{S:Nat->St}{n i:Nat}{p:Prop}{Q:AE->St->Prop}{s:St}:lqp S n i p Q .ret s=Q .ret s:=q_z
attribute [go_sem] Akv Aku Akw
def Afs{C:CT}{b:AC}{Q:AE->St->Prop}(S:Nat->St)(n:Nat)(p:Nat->Prop)(Jm:∀i,i<=n->(∀j,j<i->p j)->vc C b (lqp S n i (p i) Q) (S i)){s:St}(h0:Wk s (S 0)):vc C (.loop b) Q s:=by
 refine Aft (fun m s=>∃i,i<=n/\m=n-i/\(∀j,j<i->p j)/\Wk s (S i)) (fun m s hI=>?_) n s ⟨0,Nat.zero_le _,rfl,fun j hj=>absurd hj (q_kp _),h0⟩;obtain⟨i,hi,rfl,hp,hw⟩:=hI;refine⟨S i,hw,j6 (fun e s' he=>?_) (Jm i hi hp)⟩;cases e with
 |normal=>exact⟨n-(i+1),by have:=he.1;omega,i+1,he.1,rfl,fun j hj=>(by rcases Nat.lt_succ_iff_lt_or_eq.1 hj with h|rfl;exact hp j h;exact he.2.1),he.2.2⟩
 |exit id=>exact he
 |ret=>exact he
def Vq{α:Type}{l:List α}{i:Nat}{d:α}(h:i<l.length):l[i]?.getD d∈l:=by
 rw[q_f h,q_jz];exact q_kd h
def Iq{α:Type}(f:Nat->α->Bool):Nat->List α->Bool
 |_,[]=>true
 |i,x::l=>f i x && Iq f (i+1) l
def Anf{α:Type}{f:Nat->α->Bool}{d:α}:∀{l:List α} {k:Nat},(∀j,j<l.length->f (k+j) (l[j]?.getD d)=true)->Iq f k l=true:=by
 intro l
 induction l with
 |nil=>intro k _;rfl
 |cons x l ih=>
  intro k h;simp only[Iq,q_jl];refine⟨by simpa using h 0 (by simp),ih fun j hj=>?_⟩;have:=h (j+1) (by simp;omega);rw[show k+1+j=k+(j+1) by omega];simpa using this
def Ane{α:Type}{f:Nat->α->Bool}{d:α}:∀{l:List α} {k i:Nat},i<l.length->f (k+i) (l[i]?.getD d)=false->Iq f k l=false:=by
 intro l
 induction l with
 |nil=>intro k i h;simp at h
 |cons x l ih=>
  intro k i hi h;simp only[Iq];cases i with
  |zero=>have h':f k x=false:=by simpa using h
         rw[h'];rfl
  |succ i=>
   rw[ih (k:=k+1) (i:=i) (by simpa using hi) (by rw[show k+1+i=k+(i+1) by omega];simpa using h),q_le]
def Anb{α β:Type}{f:Nat->β->Bool}{g:α->β}:∀{l:List α} {k:Nat},Iq f k (l.map g)=Iq (fun i x=>f i (g x)) k l:=by
 intro l
 induction l with
 |nil=>intro k;rfl
 |cons x l ih=>intro k;simp only[q_h,Iq,ih]
def Ana{α:Type}{f g:Nat->α->Bool}:∀{l:List α} {k:Nat},(∀i,∀x∈l,f i x=g i x)->Iq f k l=Iq g k l:=by
 intro l
 induction l with
 |nil=>intro k _;rfl
 |cons x l ih=>
  intro k h;simp only[Iq];rw[h k x (by simp),ih (fun i y hy=>h i y (by simp[hy]))]
def vcI(C:CT)(b:AC)(Q:AE->St->Prop)(n:Nat)(s:St):Prop:=Qf (fun Q' s'=>vc C b Q' s') Q n s
def lqi(C:CT)(b:AC)(Q:AE->St->Prop)(n:Nat):AE->St->Prop:=fun e s'=>match e with|.normal=>vcI C b Q n s'|e=>Q e s'
section
variable{C:CT}{b:AC}{Q:AE->St->Prop}{n:Nat}{s:St}
def Ax2:lqi C b Q n .normal s=vcI C b Q n s:=q_z
def Ax1{j:Nat}:lqi C b Q n (.exit j) s=Q (.exit j) s:=q_z
def Ax3:lqi C b Q n .ret s=Q .ret s:=q_z
attribute [go_sem] Ax2 Ax1 Ax3
def Ao(h:vc C b (lqi C b Q n) s):vcI C b Q (n+1) s:=by
 refine⟨s,.refl s,j6 (fun e s' he=>?_) h⟩;cases e with
 |normal=>exact he
 |exit id=>exact he
 |ret=>exact he
def Dv(n:Nat)(h:vcI C b Q n s):vc C (.loop b) Q s:=⟨n,h⟩
end
def wr_1:IntKind.i64.wrap 1=1:=by decide
def wr_2:IntKind.i64.wrap 2=2:=by decide
def wr_3:IntKind.i64.wrap 3=3:=by decide
def wr_4:IntKind.i64.wrap 4=4:=by decide
def wr_5:IntKind.i64.wrap 5=5:=by decide
def wr_6:IntKind.i64.wrap 6=6:=by decide
def A4m:IntKind.i64.wrap (-1)=-1:=by decide
attribute [go_sem] wr_1 wr_2 wr_3 wr_4 wr_5 wr_6 A4m
open Go Go.Proofs Go.Proofs.YtgfehkhcmnfpaaaGreatDoor
def af162:AF:=⟨5,[(.cell 2 true 5)],(Ab [oP 2 Fp] (Ab [Aa 3 0,oP 4 (Gy [(0,(1,(cI 1))),(1,(1,(.t 3)))]),oN (Ax 5 2 4)] .ret))⟩
def tr162:trF Tryz.prog Tryz.f162=some af162:=by kernel_rfl
attribute [go_sem] af162
def af141:AF:=⟨33,[(.cell 2 true 5)],(Ab [oP 1 (.box (.t 0)),oP 2 Fp] (.seq (Ab [oP 6 (Ae 4 1),oP 7 (Ah 6),oP 8 (.len false (.t 7)),oP 9 (An 8 0)] (Aj 9 (Ab [oP 10 (Ae 4 1),oN (.store 1 (.t 10) (.c .nils))] (Ab [oP 11 (Aq 5 1),oN (Ax 5 2 11)] .ret)) .skip)) (Ab [oP 12 (Ae 4 1),oP 13 (Ah 12),oP 14 (.len false (.t 13)),oP 15 (.mk 5 56 [(iS 0),(iS 0),(iS 0),(iS 0),.nils] (.t 14) (.t 14)),Aa 3 15] (.seq (Ab [oP 16 (Ae 4 1),oP 17 (Ah 16),oP 18 (.len false (.t 17)),oP 19 (.mv (cI 0))] (.blk 0 (.loop (Ab [oP 20 (Ca .lss 19 18)] (.seq (Et 20 0) (.seq (.blk 1 (Ab [Aa 21 19,oP 22 (.iad 5 (.t 17) (.t 19)),oP 23 (Aq 5 22),oP 5 Fp,Aa 4 21,oN (Ax 5 5 23)] (Bg [Aa 24 3,Aa 25 4,oP 26 (Aq 5 5),oP 27 (.call 141 [(.t 26)]),oP 28 (.iad 5 (.t 24) (.t 25)),oN (Ax 5 28 27)]))) (Bg [oP 29 (Ay .add 19 1),Aa 19 29]))))))) (Ab [Aa 30 3,oP 31 (Ae 4 1),oN (Ax 1 31 30)] (Ab [oP 32 (Aq 5 1),oN (Ax 5 2 32)] .ret))))))⟩
def tr141:trF Tryz.prog Tryz.f141=some af141:=by kernel_rfl
attribute [go_sem] af141
def af23:AF:=⟨5,[(.t 2)],(Ab [oP 1 (.box (.t 0)),oP 2 (.mv (cB false))] (Ab [oP 3 (Aq 5 1),oP 4 (.call 56 [(.t 3),(cI 2)]),Aa 2 4] .ret))⟩
def tr23:trF Tryz.prog Tryz.f23=some af23:=by kernel_rfl
attribute [go_sem] af23
def af56:AF:=⟨58,[(.t 4)],(Ab [oP 2 (.box (.t 0)),oP 4 (.mv (cB false))] (Ab [oP 9 (Ae 0 2),oP 10 (Ah 9),oP 11 (.call 89 [(.t 10)]),Aa 5 11] (.seq (Ab [Aa 12 1,oP 13 (Ay .neq 12 0),Aa 14 13,oG 15 14 true 0 (mT 5),oG 16 14 true 0 (Ay .neq 15 0),oP 17 (Cf 14 16),Aa 18 17,oG 19 18 true 0 (mT 5),oG 20 18 true 0 (mT 1),oG 21 18 true 0 (Ca .neq 19 20),oP 22 (Cf 18 21)] (Aj 22 (Ab [oP 4 (.mv (cB false))] .ret) .skip)) (.seq (Cx [oP 23 (Ae 4 2),⟨(some 24),(Ah 23),none,1,true,[]⟩,oI 25 2 (.len false (.t 24)),oI 26 3 (Ae 0 2),oI 27 4 (Ah 26),oI 28 5 (Ae 3 2),oI 29 6 (Ah 28),⟨(some 30),(.call 90 [(.t 27),(.t 29)]),none,7,false,[1]⟩,oI 31 8 (Ca .neq 25 30),oI 32 9 (mT 31),oG 33 32 false 10 (Aq 5 2),oG 34 32 false 11 (.call 91 [(.t 33)]),oG 35 32 false 12 (.un .not (.t 34)),oI 36 13 (Dk 32 35)] (Aj 36 (Ab [oP 4 (.mv (cB false))] .ret) .skip)) (.seq (Ab [oP 37 (Ae 4 2),oP 38 (Ah 37),oP 39 (.len false (.t 38)),oP 40 (.mv (cI 0))] (.blk 0 (.loop (Ab [oP 41 (Ca .lss 40 39)] (.seq (Et 41 0) (.seq (.blk 1 (Ab [Aa 42 40,oP 43 (.iad 5 (.t 38) (.t 40)),oP 44 (Aq 5 43),oP 7 Fp,Aa 6 42,oN (Ax 5 7 44)] (Ab [Aa 45 5,Aa 8 45] (.seq (Ab [oP 46 (Ae 0 2),oP 47 (Ah 46),oP 48 (An 47 12),Aa 49 48,oG 50 49 true 0 (mT 6),oG 51 49 true 0 (An 50 2),oP 52 (Cf 49 51)] (Aj 52 (Bg [oP 8 (.mv (cI 2))]) .skip)) (Ab [oP 53 (Aq 5 7),Aa 54 8,oP 55 (.call 56 [(.t 53),(.t 54)]),oP 56 (.un .not (.t 55))] (Aj 56 (Ab [oP 4 (.mv (cB false))] .ret) .skip)))))) (Bg [oP 57 (Ay .add 40 1),Aa 40 57]))))))) (Ab [oP 4 (.mv (cB true))] .ret))))))⟩
def tr56:trF Tryz.prog Tryz.f56=some af56:=by kernel_rfl
attribute [go_sem] af56
def af89:AF:=⟨13,[(.t 2)],(Ab [oP 2 (.mv (cI 0))] (.seq (.blk 0 (Ab [Aa 4 0,oP 5 (An 4 1),Aa 6 5,oG 7 6 false 0 (mT 0),oG 8 6 false 0 (An 7 2),oP 9 (Dk 6 8),Aa 3 9] (Aj 3 (Ab [oP 2 (.mv (cI 0))] .ret) (Ab [Aa 11 0,oP 12 (Ay .leq 11 12),Aa 10 12] (Aj 10 (Ab [oP 2 (.mv (cI 1))] .ret) .skip))))) (Ab [oP 2 (.mv (cI 2))] .ret)))⟩
def tr89:trF Tryz.prog Tryz.f89=some af89:=by kernel_rfl
attribute [go_sem] af89
def af90:AF:=⟨38,[(.t 4)],(Ab [oP 4 (.mv (cI 0))] (.seq (Ab [Aa 5 0] (.blk 0 (.seq (Ab [oP 7 (An 5 1),Aa 6 7] (Aj 6 .skip (Bg [oP 8 (An 5 2),Aa 6 8]))) (Aj 6 (Ab [oP 4 (.mv (cI 0))] .ret) (.seq (Ab [oP 10 (An 5 18),Aa 9 10] (Aj 9 .skip (Bg [oP 11 (An 5 19),Aa 9 11]))) (Aj 9 (Ab [oP 4 (.mv (cI 1))] .ret) (.seq (Ab [oP 13 (An 5 3),Aa 12 13] (Aj 12 .skip (Ab [oP 14 (An 5 6),Aa 12 14] (Aj 12 .skip (Ab [oP 15 (An 5 13),Aa 12 15] (Aj 12 .skip (Ab [oP 16 (An 5 14),Aa 12 16] (Aj 12 .skip (Ab [oP 17 (An 5 15),Aa 12 17] (Aj 12 .skip (Ab [oP 18 (An 5 16),Aa 12 18] (Aj 12 .skip (Ab [oP 19 (An 5 21),Aa 12 19] (Aj 12 .skip (Bg [oP 20 (An 5 11),Aa 12 20]))))))))))))))) (Aj 12 (Ab [oP 4 (.mv (cI 2))] .ret) (.seq (Ab [oP 22 (An 5 4),Aa 21 22] (Aj 21 .skip (Ab [oP 23 (An 5 8),Aa 21 23] (Aj 21 .skip (Ab [oP 24 (An 5 9),Aa 21 24] (Aj 21 .skip (Ab [oP 25 (An 5 10),Aa 21 25] (Aj 21 .skip (Bg [oP 26 (An 5 20),Aa 21 26]))))))))) (Aj 21 (Ab [oP 4 (.mv (cI 3))] .ret) (.seq (Ab [oP 28 (An 5 5),Aa 27 28] (Aj 27 .skip (Ab [oP 29 (An 5 7),Aa 27 29] (Aj 27 .skip (Ab [oP 30 (An 5 12),Aa 27 30] (Aj 27 .skip (Bg [oP 31 (An 5 17),Aa 27 31]))))))) (Aj 27 (Ab [oP 4 (.mv (cI 4))] .ret) (Ab [oP 33 (An 5 22),Aa 32 33] (Aj 32 (Ab [oP 4 (.mv (cI 6))] .ret) (Ab [oP 35 (An 5 23),Aa 34 35] (Aj 34 (Ab [Aa 36 1,oP 37 (.call 130 [(.t 36)]),Aa 4 37] .ret) .skip)))))))))))))))) (Ab [oP 4 (.mv (cI (-1)))] .ret)))⟩
def tr90:trF Tryz.prog Tryz.f90=some af90:=by kernel_rfl
attribute [go_sem] af90
def af91:AF:=⟨87,[(.t 2)],(Ab [oP 1 (.box (.t 0)),oP 2 (.mv (cB false))] (.seq (Ab [oP 3 (Ae 0 1),oP 4 (Ah 3)] (.blk 0 (.seq (Ab [oP 6 (An 4 1),Aa 5 6] (Aj 5 .skip (Ab [oP 7 (An 4 10),Aa 5 7] (Aj 5 .skip (Ab [oP 8 (An 4 11),Aa 5 8] (Aj 5 .skip (Bg [oP 9 (An 4 12),Aa 5 9]))))))) (Aj 5 (Ab [oP 10 (Ae 1 1),oP 11 (Ah 10),oP 12 (.call 131 [(.t 11)]),Aa 13 12,oG 14 13 true 0 (Ae 2 1),oG 15 13 true 0 (Ah 14),oG 16 13 true 0 (An 15 0),oP 17 (Cf 13 16),Aa 18 17,oG 19 18 true 0 (Ae 3 1),oG 20 18 true 0 (Ah 19),oG 21 18 true 0 (An 20 0),oP 22 (Cf 18 21),Aa 2 22] .ret) (Ab [oP 24 (An 4 2),Aa 23 24] (Aj 23 (Ab [oP 25 (Ae 1 1),oP 26 (Ah 25),oP 27 (Ay .geq 26 0),Aa 28 27,oG 29 28 true 0 (Ae 1 1),oG 30 28 true 0 (Ah 29),oG 31 28 true 0 (Ay .leq 30 2147483647),oP 32 (Cf 28 31),Aa 33 32,oG 34 33 true 0 (Ae 2 1),oG 35 33 true 0 (Ah 34),oG 36 33 true 0 (An 35 0),oP 37 (Cf 33 36),Aa 38 37,oG 39 38 true 0 (Ae 3 1),oG 40 38 true 0 (Ah 39),oG 41 38 true 0 (An 40 0),oP 42 (Cf 38 41),Aa 2 42] .ret) (.seq (Ab [oP 44 (An 4 3),Aa 43 44] (Aj 43 .skip (Ab [oP 45 (An 4 4),Aa 43 45] (Aj 43 .skip (Ab [oP 46 (An 4 5),Aa 43 46] (Aj 43 .skip (Ab [oP 47 (An 4 6),Aa 43 47] (Aj 43 .skip (Ab [oP 48 (An 4 7),Aa 43 48] (Aj 43 .skip (Ab [oP 49 (An 4 8),Aa 43 49] (Aj 43 .skip (Bg [oP 50 (An 4 9),Aa 43 50]))))))))))))) (Aj 43 (Ab [oP 51 (Ae 1 1),oP 52 (Ah 51),oP 53 (.call 131 [(.t 52)]),Aa 54 53,oG 55 54 true 0 (Ae 2 1),oG 56 54 true 0 (Ah 55),oG 57 54 true 0 (.call 131 [(.t 56)]),oP 58 (Cf 54 57),Aa 59 58,oG 60 59 true 0 (Ae 3 1),oG 61 59 true 0 (Ah 60),oG 62 59 true 0 (An 61 0),oP 63 (Cf 59 62),Aa 2 63] .ret) (Ab [oP 65 (An 4 23),Aa 64 65] (Aj 64 (Ab [oP 66 (Ae 1 1),oP 67 (Ah 66),oP 68 (.call 131 [(.t 67)]),Aa 69 68,oG 70 69 true 0 (Ae 2 1),oG 71 69 true 0 (Ah 70),oG 72 69 true 0 (.call 131 [(.t 71)]),oP 73 (Cf 69 72),Aa 2 73] .ret) .skip)))))))))) (Ab [oP 74 (Ae 1 1),oP 75 (Ah 74),oP 76 (An 75 0),Aa 77 76,oG 78 77 true 0 (Ae 2 1),oG 79 77 true 0 (Ah 78),oG 80 77 true 0 (An 79 0),oP 81 (Cf 77 80),Aa 82 81,oG 83 82 true 0 (Ae 3 1),oG 84 82 true 0 (Ah 83),oG 85 82 true 0 (An 84 0),oP 86 (Cf 82 85),Aa 2 86] .ret)))⟩
def tr91:trF Tryz.prog Tryz.f91=some af91:=by kernel_rfl
attribute [go_sem] af91
def af130:AF:=⟨30,[(.t 2)],(Ab [oP 2 (.mv (cI 0))] (.seq (Ab [Aa 3 0] (.blk 0 (.seq (Ab [oP 5 (An 3 3),Aa 4 5] (Aj 4 .skip (Ab [oP 6 (An 3 5),Aa 4 6] (Aj 4 .skip (Ab [oP 7 (An 3 6),Aa 4 7] (Aj 4 .skip (Ab [oP 8 (An 3 8),Aa 4 8] (Aj 4 .skip (Ab [oP 9 (An 3 10),Aa 4 9] (Aj 4 .skip (Bg [oP 10 (An 3 11),Aa 4 10]))))))))))) (Aj 4 (Ab [oP 2 (.mv (cI 4))] .ret) (.seq (Ab [oP 12 (An 3 1),Aa 11 12] (Aj 11 .skip (Ab [oP 13 (An 3 2),Aa 11 13] (Aj 11 .skip (Ab [oP 14 (An 3 7),Aa 11 14] (Aj 11 .skip (Bg [oP 15 (An 3 9),Aa 11 15]))))))) (Aj 11 (Ab [oP 2 (.mv (cI 5))] .ret) (.seq (Ab [oP 17 (An 3 4),Aa 16 17] (Aj 16 .skip (Ab [oP 18 (An 3 12),Aa 16 18] (Aj 16 .skip (Ab [oP 19 (An 3 13),Aa 16 19] (Aj 16 .skip (Ab [oP 20 (An 3 14),Aa 16 20] (Aj 16 .skip (Bg [oP 21 (An 3 21),Aa 16 21]))))))))) (Aj 16 (Ab [oP 2 (.mv (cI 6))] .ret) (.seq (Ab [oP 23 (An 3 15),Aa 22 23] (Aj 22 .skip (Ab [oP 24 (An 3 18),Aa 22 24] (Aj 22 .skip (Ab [oP 25 (An 3 19),Aa 22 25] (Aj 22 .skip (Bg [oP 26 (An 3 20),Aa 22 26]))))))) (Aj 22 (Ab [oP 2 (.mv (cI 9))] .ret) (.seq (Ab [oP 28 (An 3 16),Aa 27 28] (Aj 27 .skip (Bg [oP 29 (An 3 17),Aa 27 29]))) (Aj 27 (Ab [oP 2 (.mv (cI 12))] .ret) .skip)))))))))))) (Ab [oP 2 (.mv (cI (-1)))] .ret)))⟩
def tr130:trF Tryz.prog Tryz.f130=some af130:=by kernel_rfl
attribute [go_sem] af130
def af131:AF:=⟨9,[(.t 2)],(Ab [oP 2 (.mv (cB false))] (Ab [Aa 3 0,oP 4 (Ay .geq 3 0),Aa 5 4,oG 6 5 true 0 (mT 0),oG 7 5 true 0 (Ay .leq 6 1000),oP 8 (Cf 5 7),Aa 2 8] .ret))⟩
def tr131:trF Tryz.prog Tryz.f131=some af131:=by kernel_rfl
attribute [go_sem] af131
def af92:AF:=⟨51,[(.t 4)],(Ab [oP 4 (.mv (cI 0))] (.seq (Ab [Aa 6 0] (.blk 0 (.seq (Ab [oP 8 (An 6 1),Aa 7 8] (Aj 7 .skip (Bg [oP 9 (An 6 2),Aa 7 9]))) (Aj 7 (Ab [oP 4 (.mv (cI 0))] .ret) (.seq (Ab [oP 11 (An 6 18),Aa 10 11] (Aj 10 .skip (Bg [oP 12 (An 6 19),Aa 10 12]))) (Aj 10 (Ab [oP 4 (.mv (cI 1))] .ret) (.seq (Ab [oP 14 (An 6 3),Aa 13 14] (Aj 13 .skip (Ab [oP 15 (An 6 6),Aa 13 15] (Aj 13 .skip (Ab [oP 16 (An 6 13),Aa 13 16] (Aj 13 .skip (Ab [oP 17 (An 6 14),Aa 13 17] (Aj 13 .skip (Ab [oP 18 (An 6 15),Aa 13 18] (Aj 13 .skip (Ab [oP 19 (An 6 16),Aa 13 19] (Aj 13 .skip (Ab [oP 20 (An 6 21),Aa 13 20] (Aj 13 .skip (Bg [oP 21 (An 6 11),Aa 13 21]))))))))))))))) (Aj 13 (Ab [oP 4 (.mv (cI 2))] .ret) (.seq (Ab [oP 23 (An 6 4),Aa 22 23] (Aj 22 .skip (Ab [oP 24 (An 6 8),Aa 22 24] (Aj 22 .skip (Ab [oP 25 (An 6 9),Aa 22 25] (Aj 22 .skip (Ab [oP 26 (An 6 10),Aa 22 26] (Aj 22 .skip (Bg [oP 27 (An 6 20),Aa 22 27]))))))))) (Aj 22 (Ab [oP 4 (.mv (cI 3))] .ret) (.seq (Ab [oP 29 (An 6 5),Aa 28 29] (Aj 28 .skip (Ab [oP 30 (An 6 7),Aa 28 30] (Aj 28 .skip (Ab [oP 31 (An 6 12),Aa 28 31] (Aj 28 .skip (Bg [oP 32 (An 6 17),Aa 28 32]))))))) (Aj 28 (Ab [oP 4 (.mv (cI 4))] .ret) (Ab [oP 34 (An 6 22),Aa 33 34] (Aj 33 (Ab [oP 4 (.mv (cI 6))] .ret) (Ab [oP 36 (An 6 23),Aa 35 36] (Aj 35 (Ab [oP 37 (.bslice 1 [(cI 5),(cI 5),(cI 4),(cI 6),(cI 4),(cI 4),(cI 5),(cI 4),(cI 5),(cI 4),(cI 4),(cI 6),(cI 6),(cI 6),(cI 9),(cI 12),(cI 12),(cI 9),(cI 9),(cI 9),(cI 6)]),Aa 5 37] (Ab [Aa 38 1,oP 39 (Ay .geq 38 1),Aa 40 39,oG 41 40 true 0 (mT 1),oG 42 40 true 0 (mT 5),oG 43 40 true 0 (.len false (.t 42)),oG 44 40 true 0 (Ca .leq 41 43),oP 45 (Cf 40 44)] (Aj 45 (Ab [Aa 46 5,Aa 47 1,oP 48 (Ay .sub 47 1),oP 49 (.iad 1 (.t 46) (.t 48)),oP 50 (Ah 49),Aa 4 50] .ret) .skip))) .skip)))))))))))))))) (Ab [oP 4 (.mv (cI (-1)))] .ret)))⟩
def tr92:trF Tryz.prog Tryz.f92=some af92:=by kernel_rfl
attribute [go_sem] af92
def af20:AF:=⟨5,[(.t 2)],(Ab [oP 1 (.box (.t 0)),oP 2 (.mv (cB false))] (Ab [oP 3 (Aq 5 1),oP 4 (.call 56 [(.t 3),(cI 1)]),Aa 2 4] .ret))⟩
def tr20:trF Tryz.prog Tryz.f20=some af20:=by kernel_rfl
attribute [go_sem] af20
def af55:AF:=⟨8,[(.t 2)],(Ab [oP 1 (.box (.t 0)),oP 2 (.mv (cI 0))] (.seq (Ab [oP 3 (Aq 5 1),oP 4 (.call 64 [(.t 3)]),oP 5 (.un .not (.t 4))] (Aj 5 (Ab [oP 2 (.mv (cI 0))] .ret) .skip)) (Ab [oP 6 (Aq 5 1),oP 7 (.call 88 [(.t 6),(cI 0)]),Aa 2 7] .ret)))⟩
def tr55:trF Tryz.prog Tryz.f55=some af55:=by kernel_rfl
attribute [go_sem] af55
def af88:AF:=⟨37,[(.t 4)],(Ab [oP 2 (.box (.t 0)),oP 4 (.mv (cI 0))] (.seq (Ab [oP 8 (Ae 0 2),oP 9 (Ah 8),oP 10 (An 9 2)] (Aj 10 (Ab [oP 11 (Ae 1 2),oP 12 (Ah 11),oP 13 (Ay .add 12 1),Aa 14 1,oP 15 (Ca .sub 13 14),oP 16 (.mnx true (.t 15) (cI 0)),Aa 4 16] .ret) .skip)) (Ab [oP 5 (.mv (cI 0))] (.seq (Ab [oP 17 (Ae 4 2),oP 18 (Ah 17),oP 19 (.len false (.t 18)),oP 20 (.mv (cI 0))] (.blk 0 (.loop (Ab [oP 21 (Ca .lss 20 19)] (.seq (Et 21 0) (.seq (.blk 1 (Ab [Aa 22 20,oP 23 (.iad 5 (.t 18) (.t 20)),oP 24 (Aq 5 23),oP 7 Fp,Aa 6 22,oN (Ax 5 7 24)] (.reg [Aa 25 5,⟨(some 26),(Aq 5 7),none,1,true,[]⟩,oI 27 2 (mT 1),oI 28 3 (Ae 0 2),oI 29 4 (Ah 28),oI 30 5 (mT 6),⟨(some 31),(.call 99 [(.t 29),(.t 30)]),none,6,false,[1]⟩,oI 32 7 (Ca .add 27 31),oI 33 8 (.call 88 [(.t 26),(.t 32)]),oI 34 9 (.mnx true (.t 25) (.t 33)),oI 5 10 (mT 34)] true))) (Bg [oP 35 (Ay .add 20 1),Aa 20 35]))))))) (Ab [Aa 36 5,Aa 4 36] .ret)))))⟩
def tr88:trF Tryz.prog Tryz.f88=some af88:=by kernel_rfl
attribute [go_sem] af88
def af64:AF:=⟨5,[(.t 2)],(Ab [oP 1 (.box (.t 0)),oP 2 (.mv (cB false))] (Ab [oP 3 (Aq 5 1),oP 4 (.call 56 [(.t 3),(cI 0)]),Aa 2 4] .ret))⟩
def tr64:trF Tryz.prog Tryz.f64=some af64:=by kernel_rfl
attribute [go_sem] af64
def af22:AF:=⟨60,[(.t 4)],(Ab [oP 2 (.box (.t 0)),oP 3 (.box (.t 1)),oP 4 (.mv (cB false))] (.seq (Ab [oP 6 (Ae 0 2),oP 7 (Ah 6),oP 8 (Ae 0 3),oP 9 (Ah 8),oP 10 (Ca .neq 7 9),Aa 11 10,oG 12 11 false 0 (Ae 1 2),oG 13 11 false 0 (Ah 12),oG 14 11 false 0 (Ae 1 3),oG 15 11 false 0 (Ah 14),oG 16 11 false 0 (Ca .neq 13 15),oP 17 (Dk 11 16),Aa 18 17,oG 19 18 false 0 (Ae 2 2),oG 20 18 false 0 (Ah 19),oG 21 18 false 0 (Ae 2 3),oG 22 18 false 0 (Ah 21),oG 23 18 false 0 (Ca .neq 20 22),oP 24 (Dk 18 23),Aa 25 24,oG 26 25 false 0 (Ae 3 2),oG 27 25 false 0 (Ah 26),oG 28 25 false 0 (Ae 3 3),oG 29 25 false 0 (Ah 28),oG 30 25 false 0 (Ca .neq 27 29),oP 31 (Dk 25 30),Aa 32 31,oG 33 32 false 0 (Ae 4 2),oG 34 32 false 0 (Ah 33),oG 35 32 false 0 (.len false (.t 34)),oG 36 32 false 0 (Ae 4 3),oG 37 32 false 0 (Ah 36),oG 38 32 false 0 (.len false (.t 37)),oG 39 32 false 0 (Ca .neq 35 38),oP 40 (Dk 32 39)] (Aj 40 (Ab [oP 4 (.mv (cB false))] .ret) .skip)) (.seq (Ab [oP 41 (Ae 4 2),oP 42 (Ah 41),oP 43 (.len false (.t 42)),oP 44 (.mv (cI 0))] (.blk 0 (.loop (Ab [oP 45 (Ca .lss 44 43)] (.seq (Et 45 0) (.seq (.blk 1 (Ab [Aa 46 44,Aa 5 46] (Cx [oP 47 (Ae 4 2),oI 48 1 (Ah 47),oI 49 2 (mT 5),oI 50 3 (.iad 5 (.t 48) (.t 49)),oI 51 4 (Aq 5 50),oI 52 5 (Ae 4 3),oI 53 6 (Ah 52),oI 54 7 (mT 5),oI 55 8 (.iad 5 (.t 53) (.t 54)),oI 56 9 (Aq 5 55),oI 57 10 (.call 22 [(.t 51),(.t 56)]),oI 58 11 (.un .not (.t 57))] (Aj 58 (Ab [oP 4 (.mv (cB false))] .ret) .skip)))) (Bg [oP 59 (Ay .add 44 1),Aa 44 59]))))))) (Ab [oP 4 (.mv (cB true))] .ret))))⟩
def tr22:trF Tryz.prog Tryz.f22=some af22:=by kernel_rfl
attribute [go_sem] af22
def af99:AF:=⟨31,[(.t 4)],(Ab [oP 4 (.mv (cI 0))] (.seq (Ab [Aa 5 0] (.blk 0 (.seq (Ab [oP 7 (An 5 3),Aa 6 7] (Aj 6 .skip (Ab [oP 8 (An 5 5),Aa 6 8] (Aj 6 .skip (Ab [oP 9 (An 5 6),Aa 6 9] (Aj 6 .skip (Ab [oP 10 (An 5 7),Aa 6 10] (Aj 6 .skip (Ab [oP 11 (An 5 8),Aa 6 11] (Aj 6 .skip (Ab [oP 12 (An 5 9),Aa 6 12] (Aj 6 .skip (Ab [oP 13 (An 5 13),Aa 6 13] (Aj 6 .skip (Ab [oP 14 (An 5 14),Aa 6 14] (Aj 6 .skip (Ab [oP 15 (An 5 16),Aa 6 15] (Aj 6 .skip (Bg [oP 16 (An 5 17),Aa 6 16]))))))))))))))))))) (Aj 6 (Ab [Aa 17 1,oP 18 (An 17 1)] (Aj 18 (Ab [oP 4 (.mv (cI 1))] .ret) .skip)) (Ab [oP 20 (An 5 4),Aa 19 20] (Aj 19 (Ab [Aa 21 1,oP 22 (An 21 1),Aa 23 22,oG 24 23 false 0 (mT 1),oG 25 23 false 0 (An 24 2),oP 26 (Dk 23 25)] (Aj 26 (Ab [oP 4 (.mv (cI 1))] .ret) .skip)) (Ab [oP 28 (An 5 22),Aa 27 28] (Aj 27 (Ab [Aa 29 1,oP 30 (An 29 2)] (Aj 30 (Ab [oP 4 (.mv (cI 2))] .ret) .skip)) .skip)))))))) (Ab [oP 4 (.mv (cI 0))] .ret)))⟩
def tr99:trF Tryz.prog Tryz.f99=some af99:=by kernel_rfl
attribute [go_sem] af99
end Go.Proofs.YtgfehkhcmnfpaaaGreatDoor.Abs
