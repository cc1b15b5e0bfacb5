import Derived.Test.YtdpigpopcbjkmaaGreatDoorYPn
import Derived.Test.YtdpigpopcbjkmaaGreatDoorYPt
import Derived.Test.YtdpigpopcbjkmaaGreatDoorYUa
import Derived.Test.YtdpigpopcbjkmaaGreatDoorYRw
set_option linter.unusedSimpArgs false
set_option linter.unusedVariables false
set_option maxRecDepth 20000
set_option maxHeartbeats 4000000
namespace Go.Proofs.YtdpigpopcbjkmaaGreatDoor.Abs
open Go Go.RowKit Go.Proofs.YtdpigpopcbjkmaaGreatDoor
theorem spl2(x0 x1 x2 x3 x4 x5 x6 x7 x8 x9 x10 x11 x12 y0 y1 y2 y3 y4:SV):Eg 13 5 2 [x0,x1,x2,x3,x4,x5,x6,x7,x8,x9,x10,x11,x12] [y0,y1,y2,y3,y4]=[x0,x1,y0,y1,y2,y3,y4,x7,x8,x9,x10,x11,x12]:=q_z
theorem spl7(x0 x1 x2 x3 x4 x5 x6 x7 x8 x9 x10 x11 x12 y0 y1 y2 y3 y4:SV):Eg 13 5 7 [x0,x1,x2,x3,x4,x5,x6,x7,x8,x9,x10,x11,x12] [y0,y1,y2,y3,y4]=[x0,x1,x2,x3,x4,x5,x6,y0,y1,y2,y3,y4,x12]:=q_z
def aS(L:List Tok)(k:Nat)(nm:SV)(i j:Nat)(cw:By)(df:Bool)(done:List Tm):St:=
 ⟨(.J::.J::.J::.J::.J::.J::.ref 1 0 0 0::.J::.J::.J::.J::.gp 0 0::.ref 2 0 0 0::.osl 3 done.length 0 done.length::.J::.J::.J::.J::.J::.J::.J::.J::.J::.J::.J::.J::.J::.J::.J::.J::.J::.J::.J::.J::.J::.J::.J::.J::.J::.J::.J::.J::.J::.J::.J::.J::.J::.J::.J::.J::.J::.J::.J::.J::.J::.J::.J::.J::.J::.J::.J::.J::.J::.J::.J::.J::.J::.J::.J::.J::.J::.J::.J::.J::.J::.J::.J::.J::.J::.J::.J::.J::.J::.J::.J::.J::.J::.J::.J::.J::.J::.J::.J::.J::.J::.J::.J::.J::.J::.J::.J::.J::.J::.J::.J::.J::.J::.J::.J::.J::.J::.J::.J::.J::.J::.J::.J::[]),[gOb [prR L k nm i j],⟨true,13,[[.str (bs []),.nils,.int .i64 0,.int .i64 0,.int .i64 0,.int .i64 0,.nils,.int .i64 0,.int .i64 0,.int .i64 0,.int .i64 0,.nils,.bool false]],0,0,true⟩,⟨true,13,[[.str (bs cw),.nils,.int .i64 0,.int .i64 0,.int .i64 0,.int .i64 0,.nils,.int .i64 0,.int .i64 0,.int .i64 0,.int .i64 0,.nils,.bool df]],0,0,true⟩,⟨false,5,done.map tv,done.length-1,done.length,true⟩]⟩
def AtL(L:List Tok)(k:Nat)(nm:SV)(i j:Nat)(cw:By)(df:Bool)(done:List Tm)(R:SV)(m:Nat):Prop:=
 vcI (Av Tryz.prog fun _ _=>False) a72_28 (bk 0 (sq (Av Tryz.prog fun _ _=>False) a72_51 (rt [.cell 6 true 13,.t 7] R))) m (aS L k nm i j cw df done)
def zr:List SV:=[.int .i64 0,.int .i64 0,.int .i64 0,.int .i64 0,.nils]
def Lt(cw:By)(ps:List Tm)(ty:Tm)(bd:List SV)(df:Bool):SV:=.tup [.agg true (.str (bs cw)::.dsl 5 (ps.map tv)::(tv ty++(bd++[.bool df]))),.bool true]
section
variable{L:List Tok}{k i j:Nat}{nm:SV}{cw:By}{done:List Tm}{ns:List By}{f:Nat}
theorem Ap9{t z:Tok}{r1 r2:List Tok}{ty:LT}(hL:L.length<1000000000000)(hi:i<1000)(hj:j<1000)(Tu:done.length<=1000000)(hnm:NmP nm ns)(Eb:ns.length+2*f<1000000)(hd:L.drop k=t::r1)(ht:t.k=2)(Gf:Io f ns r1=some (ty,z::r2))(hz:z.k=2) :
  AtL L k nm i j cw false done (Lt cw done (ty.tm i j) zr false) 1:=by
 have c1:=Ko (i:=i) (j:=j) (nm:=nm) (G:=[]) hd hL;rw[ht] at c1;have c2:=Em (i:=i) (j:=j) (nm:=nm) (G:=[]) (c:=2) hd hL (by omega);have d1:=As hd;obtain⟨k1,nm1,d2,m1,c3⟩:=d8 f ns r1 _ ty Gf (by omega) L (k+1) i j nm [] 2 hL hi hj (.inr rfl) hnm d1;have c4:=Em (i:=i) (j:=j) (nm:=nm1) (G:=[]) (c:=2) d2 hL (by omega);have Iy:(done.map tv).take done.length=done.map tv:=List.take_of_length_le (by simp);refine Aj ?_;unfold aS Lt zr;generalize ty.tm i j=tt at *
 cases tt with
 |mk tk ti tj tn tl=>
  rw[Ak] at c3 |-;unfold prR at c1 c2 c3 c4 |-;simp only[go_sem,seval];refine Ac c1 ?_;simp only[go_sem,seval];refine Ac c2 ?_;simp only[go_sem,seval,q_g,Iy];refine Ac c3 ?_;simp only[go_sem,seval,spl2,q_g,Iy];refine Ac c4 ?_;simp only[go_sem,seval,spl2,q_g,Iy,List.cons_append,List.nil_append]
theorem Aqa{f2:Nat}{t z:Tok}{r1 r2 r3:List Tok}{ty bd:LT}(hL:L.length<1000000000000)(hi:i<1000)(hj:j<1000)(Tu:done.length<=1000000)(hnm:NmP nm ns)(Eb:ns.length+2*f<1000000)(hd:L.drop k=t::r1)(ht:t.k=2)(Gf:Io f ns r1=some (ty,r2))(On:Io f2 ns r2=some (bd,z::r3))(hns2:ns.length+2*f2<1000000)(hz:z.k=2) :
  AtL L k nm i j cw true done (Lt cw done (ty.tm i j) (tv (bd.tm i j)) true) 1:=by
 have c1:=Ko (i:=i) (j:=j) (nm:=nm) (G:=[]) hd hL;rw[ht] at c1;have c2:=Em (i:=i) (j:=j) (nm:=nm) (G:=[]) (c:=2) hd hL (by omega);have d1:=As hd;obtain⟨k1,nm1,d2,m1,c3⟩:=d8 f ns r1 _ ty Gf (by omega) L (k+1) i j nm [] 2 hL hi hj (.inr rfl) hnm d1;obtain⟨k2,nm2,d3,m2,c5⟩:=d8 f2 ns r2 _ bd On (by omega) L k1 i j nm1 [] 2 hL hi hj (.inr rfl) m1 d2;have c4:=Em (i:=i) (j:=j) (nm:=nm2) (G:=[]) (c:=2) d3 hL (by omega);have Iy:(done.map tv).take done.length=done.map tv:=List.take_of_length_le (by simp);refine Aj ?_;unfold aS Lt;generalize ty.tm i j=tt at *
 generalize bd.tm i j=bt at *
 cases tt with
 |mk tk ti tj tn tl=>
  cases bt with
  |mk uk ui uj un ul=>
   rw[Ak] at c3 c5 |-;rw[Ak];unfold prR at c1 c2 c3 c4 c5 |-;simp only[go_sem,seval];refine Ac c1 ?_;simp only[go_sem,seval];refine Ac c2 ?_;simp only[go_sem,seval,q_g,Iy];refine Ac c3 ?_;simp only[go_sem,seval,spl2,q_g,Iy];refine Ac c5 ?_;simp only[go_sem,seval,spl7,q_g,Iy];refine Ac c4 ?_;simp only[go_sem,seval,spl2,spl7,q_g,Iy,List.cons_append,List.nil_append]
theorem Aqb{df:Bool}{R:SV}{t u z:Tok}{r1 r2:List Tok}{a:LT}(hL:L.length<1000000000000)(hi:i<1000)(hj:j<1000)(Tu:done.length<=1000000)(hnm:NmP nm ns)(Eb:ns.length+2*f+2<1000000)(hd:L.drop k=t::u::r1)(ht:t.k=1)(hu:u.k=3)(ha:Io f ns r1=some (a,z::r2))(hz:z.k=2)
  (H:∀k',L.drop k'=r2->∃q,AtL L k' (nmV (u.w::ns)) i j cw df (done++[a.tm i j]) R q):∃q,AtL L k nm i j cw df done R q:=by
 have c1:=Ko (i:=i) (j:=j) (nm:=nm) (G:=[]) hd hL;rw[ht] at c1;obtain⟨b1,b2,b3,b4,b5,b6,b7,b8,b9,b10⟩:=Dl hd;have b6:=b6 hL;have d1:=As hd;have c2:=Em (i:=i) (j:=j) (nm:=nm) (G:=[]) (c:=3) d1 hL (by omega);have d2:=As d1;obtain⟨k1,nm1,d3,m1,c3⟩:=d8 f ns r1 _ a ha (by omega) L (k+1+1) i j nm [] 2 hL hi hj (.inr rfl) hnm d2;have c4:=Em (i:=i) (j:=j) (nm:=nm1) (G:=[]) (c:=2) d3 hL (by omega);have c5:=Vs (L:=L) (k:=k1+1) (i:=i) (j:=j) (G:=[]) (ws:=[u.w]) m1 (by simp) (by omega);simp only[List.reverse_cons,List.reverse_nil,List.nil_append,List.singleton_append,q_h,q_i,wdR] at c5;obtain⟨q,h2⟩:=H (k1+1) (As d3);have Ci:=Ae (a.tm i j);have e3:(done.length+1)*56<=140737488355328:=by omega
 have e4:done.length+1<=140737488355328:=by omega
 have Iy:(done.map tv).take done.length=done.map tv:=List.take_of_length_le (by simp);refine⟨q+1,Aj ?_⟩;unfold AtL at h2;unfold aS at h2 |-;unfold prR at c1 c2 c3 c4 c5 h2 |-;simp only[go_sem,seval];refine Ac c1 ?_;simp only[go_sem,seval,b6];refine Ac c2 ?_;simp only[go_sem,seval];refine Ac c3 ?_;simp only[go_sem,seval,Ci,e3,e4,q_g];refine Ac c4 ?_;simp only[go_sem,seval];refine Ac c5 ?_;simp only[go_sem,seval];have eL:(done++[a.tm i j]).length=done.length+1:=by simp
 have eM:(done++[a.tm i j]).map tv=done.map tv++[tv (a.tm i j)]:=by simp
 simp only[eL,eM,Nat.add_sub_cancel] at h2;exact Cp (Dq 4 (by simp[An]) (by simp) (by simp[Ba]) (by simp[gOb])) h2
theorem Am2{df:Bool}{R:SV}{nsE:List By}{psE:List LT}{rE:List Tok}(hL:L.length<1000000000000)(hi:i<1000)(hj:j<1000)
  (Xm:∀k' nm' t,psE.length<=1000000->NmP nm' nsE->nsE.length<=200000->L.drop k'=t::rE->t.k=2->AtL L k' nm' i j cw df (psE.map (LT.tm i j)) R 1) :
  ∀(g:Nat) (ns:List By) (ps:List LT) (ts:List Tok) (k:Nat) (nm:SV),Zo f g ns ps ts=some (nsE,psE,rE)->NmP nm ns->ns.length+g+2*f+2<1000000->ns.length+g<=200000->ps.length+g<=1000000->L.drop k=ts->∃q,AtL L k nm i j cw df (ps.map (LT.tm i j)) R q:=by
 intro g
 induction g with
 |zero=>intro ns ps ts k nm h;cases h
 |succ g ih=>
  intro ns ps ts k nm h hnm hb Dw hp hd
  match ts,h with
  |[],h=>cases h
  |t::r1,h=>
   unfold Zo at h;dsimp only at h;split at h
   ·rename_i ht
    match r1,h with
    |[],h=>cases h
    |u::r2,h=>
     dsimp only at h;split at h
     ·rename_i hu;cases ha:Io f ns r2 with
      |none=>rw[ha] at h;cases h
      |some p=>
       obtain⟨a,r3⟩:=p;rw[ha] at h;dsimp only at h;cases hc:Oe () r3 with
       |none=>rw[hc] at h;cases h
       |some p2=>
        obtain⟨uu,r4⟩:=p2;rw[hc] at h;dsimp only at h;obtain⟨z,Ci,Dy,_⟩:=Of hc;subst Ci;refine Aqb hL hi hj (by simp;omega) hnm (by omega) hd ht hu ha Dy (fun k' hk=>?_);have:=ih (u.w::ns) (ps++[a]) r4 k' (nmV (u.w::ns)) h (.inr rfl) (by simp;omega) (by simp;omega) (by simp;omega) hk
        rwa [List.map_append,q_h,q_i] at this
     ·cases h
   ·split at h
    ·rename_i ht;cases h;exact⟨1,Xm k nm t (by omega) hnm (by omega) hd ht⟩
    ·cases h
end
theorem Aho{n i j:Nat}{tx:By}{L:List Tok}{a b c d:Tok}{r0:List Tok}{R:SV}(hn:libL[n]?=some tx)(Hh:Lx tx 0 L)(hL:L=a::b::c::d::r0)(Gl:tx.length<100000)(hi:i<1000)(hj:j<1000)(ha:a.k=1)(hb:b.k=3)(hc:c.k=3)(hd:d.k=1)(hNR:NoG R)(hq:∃q,AtL L 4 .nils i j c.w (b.w==[100,101,102]) [] R q) :
  Con 72 [.int .i64 ((n+1:Nat):Int),.int .i64 i,.int .i64 j] R:=by
 have Ag:libL.length=21:=rfl;have Bu:∀(m:Nat) v,libL[m]?=some v->(libL.map wdR)[m]?.getD []=[.str (bs v)]:=fun m v hv=>by rw[List.getElem?_map,hv];rfl
 have hnl:=(List.getElem?_eq_some_iff.1 hn).1;have cl:=Acy;generalize libL=lb at *
 have hLl:=Zi Hh;have cx:=Ave (by omega) Hh (by rw[hL];simp) (by omega);have d0:L.drop 0=a::b::c::d::r0:=by rw[List.drop_zero,hL]
 have d1:=As d0;have d2:=As d1;have d3:=As d2;have c1:=Em (i:=i) (j:=j) (nm:=.nils) (G:=[]) (c:=1) d0 (by omega) (by omega);have c2:=Em (i:=i) (j:=j) (nm:=.nils) (G:=[]) (c:=3) d1 (by omega) (by omega);have c3:=Em (i:=i) (j:=j) (nm:=.nils) (G:=[]) (c:=3) d2 (by omega) (by omega);have c4:=Em (i:=i) (j:=j) (nm:=.nils) (G:=[]) (c:=1) d3 (by omega) (by omega);have Ed:∀x∈[SV.int .i64 ((n+1:Nat):Int),.int .i64 i,.int .i64 j],NoG x:=fun x hx=>by
  simp only[List.mem_cons,List.not_mem_nil,or_false] at hx;rcases hx with rfl|rfl|rfl<;>exact .int _ _
 refine o9 mixed Tryz.func72 tr72 Ed hNR ?_;have i1:¬((n+1:Nat):Int)<1:=by omega
 have i2:¬((n+1:Nat):Int) > 21:=by omega
 have i3:¬(i:Int)<0:=by omega
 have i4:¬(j:Int)<0:=by omega
 have i5:¬(i:Int) >= 1000:=by omega
 have i6:¬(j:Int) >= 1000:=by omega
 have i7:IntKind.i64.wrap (((n+1:Nat):Int)-1)=(n:Int):=by rw[w64 (by unfold fit;omega)];omega
 have i8:(0:Int)<=(n:Int):=by omega
 have i9:(n:Int)<21:=by omega
 have i10:n<21:=by omega
 have i11:(21:Nat)<=140737488355328:=by decide
 unfold prR at c1 c2 c3 c4;simp only[go_sem,seval];refine Aa cl ?_;simp only[go_sem,seval,q_g,Ag,i1,i2,i3,i4,decide_eq_false i5,decide_eq_false i6,decide_eq_false i1,decide_eq_false i2,i7,i8,i9,i10,i11,forall_const,Bu n tx hn];refine Aa cx ?_;simp only[go_sem,seval];refine Ac c1 ?_;simp only[go_sem,seval];refine Ac c2 ?_;simp only[go_sem,seval];refine Ac c3 ?_;simp only[go_sem,seval];refine Ac c4 ?_;simp only[go_sem,seval];obtain⟨q,h2⟩:=hq;unfold AtL aS at h2;unfold prR at h2;exact Ca q (Cp (.trans (.ghost _ 13 5 rfl) (Au (by simp[An]))) h2)
def Vd(ls:LS)(i j:Nat):List SV:=match ls.bd with
 |some b=>tv (b.tm i j)
 |none=>tv zt
theorem Aa5{cw:By}{ps:List Tm}{ty:Tm}{bd:List SV}{df:Bool}(hb:∀x∈bd,NoG x):NoG (Lt cw ps ty bd df):=by
 refine .tup _ (fun x hx=>?_);simp only[List.mem_cons,List.not_mem_nil,or_false] at hx;rcases hx with rfl|rfl
 ·refine .agg _ _ (fun y hy=>?_);simp only[List.mem_cons,List.mem_append,List.not_mem_nil,or_false] at hy;rcases hy with rfl|rfl|hy|hy|rfl
  ·exact .str _
  ·refine .dsl _ _ (fun z hz=>?_);obtain⟨r,hr,Qo⟩:=List.mem_flatten.1 hz;obtain⟨t,_,rfl⟩:=List.mem_map.1 hr;exact Ui t z Qo
  ·exact Ui ty y hy
  ·exact hb y hy
  ·exact .bool _
 ·exact .bool _
theorem Aml:∀x∈zr,NoG x:=fun x hx=>by
 unfold zr at hx;simp only[List.mem_cons,List.not_mem_nil,or_false] at hx;rcases hx with rfl|rfl|rfl|rfl|rfl<;>first|exact .int _ _|exact .nils
theorem Alg:∀l:List SV,Les l l:=by
 intro l
 induction l with
 |nil=>exact .nil
 |cons a l ih=>exact .cons _ _ _ _ (.refl _) ih
theorem Alf{a b c d:List SV}(h:Les a b)(k:Les c d):Les (a++c) (b++d):=by
 induction h with
 |nil=>exact k
 |cons x y l r h1 _ ih=>exact .cons _ _ _ _ h1 ih
theorem Ald{cw:By}{ps:List Tm}{ty:Tm}{df:Bool}:Le (Lt cw ps ty zr df) (Lt cw ps ty (tv zt) df):=by
 refine .tup _ _ (.cons _ _ _ _ (.agg _ _ (.cons _ _ _ _ (.refl _) (.cons _ _ _ _ (.refl _) (Alf (Alg _) (Alf ?_ (Alg _)))))) (.cons _ _ _ _ (.cell _ _ (.refl _)) .nil));rw[zt,Ak];exact .cons _ _ _ _ (.refl _) (.cons _ _ _ _ (.refl _) (.cons _ _ _ _ (.refl _) (.cons _ _ _ _ (.refl _) (.cons _ _ _ _ (.nils 5) .nil))))
theorem Bf1{f:Nat}{ns:List By}{ts r:List Tok}{lt:LT}(h:Io f ns ts=some (lt,r))(hb:ns.length+2*f<1000000)(hl:ts.length<1000000000000):r.length<=ts.length:=by
 obtain⟨k',_,h1,_⟩:=d8 f ns ts r lt h hb ts 0 0 0 (nmV ns) [] 2 hl (by omega) (by omega) (.inr rfl) (.inr rfl) rfl;rw[<-h1,List.length_drop];omega
theorem Ats{n i j:Nat}{tx:By}{ls:LS}(hn:libL[n]?=some tx)(Bb:Qr tx=some ls)(Gl:tx.length<100000)(hi:i<1000)(hj:j<1000) :
  Con 72 [.int .i64 ((n+1:Nat):Int),.int .i64 i,.int .i64 j] (Lt ls.nm (ls.ps.map (LT.tm i j)) (ls.ty.tm i j) (Vd ls i j) ls.df):=by
 unfold Qr at Bb;cases Hh:Hl (tx.length+1) 0 tx with
 |none=>rw[Hh] at Bb;cases Bb
 |some L=>
  rw[Hh] at Bb;have hx:=Ae9 Hh;have Di:=Zi hx
  match L,Bb,hx,Di with
  |[],Bb,_,_=>cases Bb
  |[_],Bb,_,_=>cases Bb
  |[_,_],Bb,_,_=>cases Bb
  |[_,_,_],Bb,_,_=>cases Bb
  |a::b::c::d::r,Bb,hx,Di=>
   dsimp only at Bb;split at Bb
   ·rename_i hk;obtain⟨ha,hb,hc,hd⟩:=hk;have d4:(a::b::c::d::r).drop 4=r:=rfl;simp only[List.length_cons] at Di;cases hp:Zo r.length r.length [] [] r with
    |none=>rw[hp] at Bb;cases Bb
    |some p=>
     obtain⟨nsE,psE,r1⟩:=p;rw[hp] at Bb;dsimp only at Bb;cases Gf:Io r1.length nsE r1 with
     |none=>rw[Gf] at Bb;cases Bb
     |some p2=>
      obtain⟨ty,r2⟩:=p2;rw[Gf] at Bb;dsimp only at Bb;have Jv:(a::b::c::d::r).length<1000000000000:=by simp only[List.length_cons];omega
      split at Bb
      ·rename_i En;cases On:Io r2.length nsE r2 with
       |none=>rw[On] at Bb;cases Bb
       |some p3=>
        obtain⟨bd,r3⟩:=p3;rw[On] at Bb;dsimp only at Bb;split at Bb
        ·rename_i uu hcl;obtain⟨z,Ci,Dy,_⟩:=Of hcl;subst Ci;cases Bb;refine Aho hn hx rfl Gl hi hj ha hb hc hd (Aa5 (Ui _)) ?_;rw[En];exact Am2 (f:=r.length) (df:=true) Jv hi hj (fun k' nm' t h1 h2 h3 h4 h5=>by
          have e1:=congrArg List.length h4;simp only[List.length_drop,List.length_cons] at e1;have e2:=Bf1 Gf (by omega) (by omega);exact Aqa Jv hi hj (by simpa using h1) h2 (by omega) h4 h5 Gf On (by omega) Dy) r.length [] [] r 4 .nils hp (.inl ⟨rfl,rfl⟩) (by simp;omega) (by simp;omega) (by simp;omega) d4
        ·cases Bb
      ·rename_i En;have En:(b.w==[100,101,102])=false:=by simpa using En
       split at Bb
       ·rename_i uu hcl;obtain⟨z,Ci,Dy,_⟩:=Of hcl;subst Ci;cases Bb;refine Contract.weaken (Aho hn hx rfl Gl hi hj ha hb hc hd (Aa5 (bd:=zr) Aml) ?_) Ald;rw[En];exact Am2 (f:=r.length) (df:=false) Jv hi hj (fun k' nm' t h1 h2 h3 h4 h5=>by
         have e1:=congrArg List.length h4;simp only[List.length_drop,List.length_cons] at e1;exact Ap9 Jv hi hj (by simpa using h1) h2 (by omega) h4 h5 Gf Dy) r.length [] [] r 4 .nils hp (.inl ⟨rfl,rfl⟩) (by simp;omega) (by simp;omega) (by simp;omega) d4
       ·cases Bb
   ·cases Bb
mutual
def okT:Nat->LT->Bool
 |d,.var n=>decide (n<d)
 |d,.nd k a b n l=>(decide (k=1) || decide (13<=k)) && (decide ((l.length:Int)=Bf k n) && ((decide (k=1) || (decide (k=23) || decide (a=.z))) && ((decide (k=23) || (decide (b=.z) && decide (n=0))) && okL d k 0 l)))
def okL:Nat->Nat->Nat->List LT->Bool
 |_,_,_,[]=>true
 |d,k,p,t::l=>okT (d+bnd k p) t && okL d k (p+1) l
end
mutual
def szT:LT->Nat
 |.var _=>1
 |.nd _ _ _ _ l=>1+szL l
def szL:List LT->Nat
 |[]=>0
 |t::l=>szT t+szL l
end
mutual
def dpT:LT->Nat
 |.var _=>0
 |.nd k _ _ _ l=>dpL k 0 l
def dpL:Nat->Nat->List LT->Nat
 |_,_,[]=>0
 |k,p,t::l=>max (bnd k p+dpT t) (dpL k (p+1) l)
end
def Aa9(n:Nat)(ls:LS):Bool:=(ls.df==ls.bd.isSome) && match ls.bd with
 |none=>true
 |some b=>okT (Bf 23 n).toNat b && (decide (szT b<=4000) && decide ((Bf 23 n).toNat+dpT b<=1000))
def Aa8:Nat->List By->Bool
 |_,[]=>true
 |n,tx::l=>(match Qr tx with
  |some ls=>Aa9 n ls
  |none=>false) && Aa8 (n+1) l
theorem Apt:Aa8 1 libL=true:=by kernel_rfl
open Go Go.RowKit Go.Proofs.YtdpigpopcbjkmaaGreatDoor
section
variable{i j:Nat}
theorem LE.ev_le(hi:i<1000)(hj:j<1000)(a:LE):a.ev i j<=1000:=by cases a<;>simp only[LE.ev]<;>omega
theorem Bfy{n:Int}(h:0<=Bf 23 n):1<=n/\n<=21:=by
 unfold Bf at h;rw[if_pos rfl] at h;unfold Sl tab at h;split at h
 ·rename_i c;simp only[List.length_cons,List.length_nil] at c;omega
 ·omega
theorem A9y(hi:i<1000)(hj:j<1000){k n len:Nat}{a b:LE}(h1:k=1\/13<=k)(h2:(len:Int)=Bf k n)(h3:k=1\/k=23\/a=.z)(h4:k=23\/(b=.z/\n=0)) :
  In k (a.ev i j:Nat) (b.ev i j:Nat) n 2 len=true:=by
 have ha:=LE.ev_le hi hj a;have hb:=LE.ev_le hi hj b;have la:lev ((a.ev i j:Nat):Int)=true:=by unfold lev;simp;omega
 have lb:lev ((b.ev i j:Nat):Int)=true:=by unfold lev;simp;omega
 have hs:(!((2:Int) != 0) || (!(Hz k != 0) || !(Hz k != 2)))=true:=by
  unfold Hz;rcases h1 with rfl|h1
  ·rfl
  ·rw[if_neg (by omega),if_neg (by omega)];rfl
 unfold In;rw[hs,h2];have hn:Lq k (a.ev i j:Nat) (b.ev i j:Nat) n=true:=by
  unfold Lq
  by_cases k1:k=1
  ·subst k1;obtain⟨rfl,rfl⟩:=h4.resolve_left (by decide);rw[if_pos (.inl rfl),la];rfl
  ·have h13:=h1.resolve_left k1;rw[if_neg (by omega),if_neg (by omega),if_neg (by omega)]
   by_cases k23:k=23
   ·rw[if_pos (by omega),la,lb];rfl
   ·rw[if_neg (by omega)];obtain⟨rfl,rfl⟩:=h4.resolve_left k23;have:a=.z:=by rcases h3 with h|h|h;exact absurd h k1;exact absurd h k23;exact h
    subst this;rfl
 rw[hn];simp
theorem Aoj(l:List LT):(LT.tms i j l).length=l.length:=by rw[Af6,q_g]
mutual
theorem Amt(hi:i<1000)(hj:j<1000):∀(t:LT) (d:Nat),okT d t=true->Sf d (t.tm i j)/\(d+dpT t<=2147483647->Cb (t.tm i j)=true)
 |.var n,d,h=>by
  rw[okT] at h;have h:=of_decide_eq_true h;rw[LT.tm];exact⟨.var h,fun hb=>Wn (by rw[dpT] at hb;omega)⟩
 |.nd k a b n l,d,h=>by
  rw[okT] at h;simp only[Bool.and_eq_true,Bool.or_eq_true,decide_eq_true_eq] at h;obtain⟨h1,h2,h3,h4,h5⟩:=h;have ih:=Ams hi hj l d k 0 h5;have ha:=LE.ev_le hi hj a;have hb:=LE.ev_le hi hj b;have hn:n<=21:=by
   rcases h4 with h|h
   ·subst h;have:=Bfy (n:=(n:Int)) (by rw[show ((23:Nat):Int)=23 from rfl] at h2;omega);omega
   ·omega
  rw[LT.tm];have Xl:k=1\/k=23\/a=.z:=h3;refine⟨.nd _ _ _ (by omega) (by omega) ⟨by unfold fit;omega,by unfold fit;omega,by unfold fit;omega⟩ (by rw[Aoj];exact h2) (fun p t ht=>?_),fun hb=>plain_mk.2 ⟨by rw[Aoj];exact A9y hi hj h1 h2 Xl h4,fun t ht=>?_⟩⟩
  ·have:=(ih p t ht).1
   rwa [Nat.zero_add] at this
  ·obtain⟨p,hp⟩:=List.getElem?_of_mem ht;rw[dpT] at hb;exact (ih p t hp).2 hb
theorem Ams(hi:i<1000)(hj:j<1000):∀(l:List LT) (d k p:Nat),okL d k p l=true->∀(q:Nat) t,(LT.tms i j l)[q]?=some t->Sf (d+bnd k (p+q)) t/\(d+dpL k p l<=2147483647->Cb t=true)
 |[],d,k,p,_=>fun q t ht=>by rw[LT.tms] at ht;cases ht
 |u::l,d,k,p,h=>fun q t ht=>by
  rw[okL,Bool.and_eq_true] at h;rw[LT.tms] at ht;cases q with
  |zero=>
   simp only[List.getElem?_cons_zero,q_b] at ht;subst ht;obtain⟨a,b⟩:=Amt hi hj u (d+bnd k p) h.1;exact⟨a,fun hb=>b (by rw[dpL] at hb;omega)⟩
  |succ q=>
   rw[List.getElem?_cons_succ] at ht;obtain⟨a,b⟩:=Ams hi hj l d k (p+1) h.2 q t ht;exact⟨by rwa [show p+1+q=p+(q+1) by omega] at a,fun hb=>b (by rw[dpL] at hb;omega)⟩
end
mutual
theorem Aod:∀t:LT,tsz (t.tm i j)=szT t
 |.var n=>by rw[LT.tm,szT];unfold vT;rw[Hq];rfl
 |.nd k a b n l=>by rw[LT.tm,szT,Hq,Aoe l]
theorem Aoe:∀l:List LT,((LT.tms i j l).map tsz).sum=szL l
 |[]=>by rw[LT.tms,szL];rfl
 |t::l=>by rw[LT.tms,szL,q_h,List.sum_cons,Aod t,Aoe l]
end
mutual
theorem Aie:∀t:LT,dpt (t.tm i j)=dpT t
 |.var n=>by rw[LT.tm,dpT];unfold vT;rw[dpt,Lf]
 |.nd k a b n l=>by rw[LT.tm,dpT,dpt,Aif l]
theorem Aif:∀(l:List LT) {k p:Nat},Lf (k:Int) p (LT.tms i j l)=dpL k p l
 |[],_,_=>by rw[LT.tms,dpL,Lf]
 |t::l,_,_=>by rw[LT.tms,dpL,Lf,Aie t,Aif l]
end
end
open Go Go.RowKit Go.Proofs.YtdpigpopcbjkmaaGreatDoor
def LS.sy(i j:Nat)(ls:LS):Sy:=⟨ls.nm,ls.ps.map (LT.tm i j),ls.ty.tm i j,(match ls.bd with
 |some b=>b.tm i j
 |none=>zt),ls.df⟩
def symT:SyT:=fun n i j=>if (1<=n/\n<=21)/\(0<=i/\i<1000)/\(0<=j/\j<1000) then ((libL[(n-1).toNat]?).bind Qr).map (LS.sy i.toNat j.toNat) else none
theorem A9e:∀{l:List By} {m n:Nat} {tx:By},Aa8 n l=true->l[m]?=some tx->∃ls,Qr tx=some ls/\Aa9 (n+m) ls=true:=by
 intro l
 induction l with
 |nil=>intro m n tx _ h;cases h
 |cons a l ih=>
  intro m n tx h hm;rw[Aa8,Bool.and_eq_true] at h;cases m with
  |zero=>
   simp only[List.getElem?_cons_zero,q_b] at hm;subst hm;obtain⟨h1,_⟩:=h;split at h1
   ·rename_i ls Bb;exact⟨ls,Bb,h1⟩
   ·cases h1
  |succ m=>
   obtain⟨ls,h1,h2⟩:=ih h.2 (by simpa using hm);exact⟨ls,h1,by rwa [show n+1+m=n+(m+1) by omega] at h2⟩
theorem Af2{n i j:Int}(h:(1<=n/\n<=21)/\(0<=i/\i<1000)/\(0<=j/\j<1000)):∃tx ls,libL[(n-1).toNat]?=some tx/\tx.length<100000/\Qr tx=some ls/\Aa9 n.toNat ls=true/\symT n i j=some (ls.sy i.toNat j.toNat):=by
 have Ag:libL.length=21:=rfl;have Ab:(n-1).toNat<libL.length:=by omega
 have h1:libL[(n-1).toNat]?=some libL[(n-1).toNat]:=q_f Ab;obtain⟨ls,h2,h3⟩:=A9e Apt h1;have h4:=List.all_eq_true.1 A6z _ (List.getElem_mem Ab);rw[Bool.and_eq_true] at h4;refine⟨_,ls,h1,of_decide_eq_true h4.2,h2,by rwa [show 1+(n-1).toNat=n.toNat by omega] at h3,?_⟩;unfold symT;rw[if_pos h,h1,Option.bind_some,h2,Option.map_some]
def Agk:SV:=.tup [.agg true [.str (bs []),.nils,.int .i64 0,.int .i64 0,.int .i64 0,.int .i64 0,.nils,.int .i64 0,.int .i64 0,.int .i64 0,.int .i64 0,.nils,.bool false],.bool false]
theorem Att{n i j:Int}(h:¬((1<=n/\n<=21)/\(0<=i/\i<1000)/\(0<=j/\j<1000))):Con 72 [.int .i64 n,.int .i64 i,.int .i64 j] Agk:=by
 have Ag:libL.length=21:=rfl;have cl:=Acy;generalize libL=lb at *
 have hb:(21:Nat)<=140737488355328:=by decide
 refine Al mixed Tryz.func72 tr72 ?_;unfold Agk;simp only[go_sem,seval];refine Aa cl ?_
 by_cases h1:n<1
 ·simp only[go_sem,seval,q_g,Ag,hb,decide_eq_true h1]
 by_cases h2:n > 21
 ·simp only[go_sem,seval,q_g,Ag,hb,forall_const,decide_eq_false h1,decide_eq_true h2]
 by_cases h3:i<0
 ·simp only[go_sem,seval,q_g,Ag,hb,forall_const,decide_eq_false h1,decide_eq_false h2,decide_eq_true h3]
 by_cases h4:i >= 1000
 ·simp only[go_sem,seval,q_g,Ag,hb,forall_const,decide_eq_false h1,decide_eq_false h2,decide_eq_false h3,decide_eq_true h4]
 by_cases h5:j<0
 ·simp only[go_sem,seval,q_g,Ag,hb,forall_const,decide_eq_false h1,decide_eq_false h2,decide_eq_false h3,decide_eq_false h4,decide_eq_true h5]
 by_cases h6:j >= 1000
 ·simp only[go_sem,seval,q_g,Ag,hb,forall_const,decide_eq_false h1,decide_eq_false h2,decide_eq_false h3,decide_eq_false h4,decide_eq_false h5,decide_eq_true h6]
 ·exact absurd ⟨⟨by omega,by omega⟩,⟨by omega,by omega⟩,by omega,by omega⟩ h
theorem A6o:Le Agk (.tup [.agg true (.str (bs [])::.nils::(zr++(tv zt++[.bool false]))),.bool false]):=by
 refine .tup _ _ (.cons _ _ _ _ (.agg _ _ ?_) (.cons _ _ _ _ (.cell _ _ (.refl _)) .nil));rw[zt,Ak];exact .cons _ _ _ _ (.refl _) (.cons _ _ _ _ (.refl _) (.cons _ _ _ _ (.refl _) (.cons _ _ _ _ (.refl _) (.cons _ _ _ _ (.refl _) (.cons _ _ _ _ (.refl _) (.cons _ _ _ _ (.refl _) (.cons _ _ _ _ (.refl _) (.cons _ _ _ _ (.refl _) (.cons _ _ _ _ (.refl _) (.cons _ _ _ _ (.refl _) (.cons _ _ _ _ (.nils 5) (.cons _ _ _ _ (.refl _) .nil))))))))))))
theorem Abw{n i j:Int}{b:Tm}(h:symT.B n i j=some b):PT (Bf 23 n).toNat 4000 b/\(Bf 23 n).toNat+dpt b<=1000:=by
 by_cases hr:(1<=n/\n<=21)/\(0<=i/\i<1000)/\(0<=j/\j<1000)
 ·obtain⟨tx,ls,h1,h2,h3,h4,h5⟩:=Af2 hr;unfold SyT.B at h;rw[h5,Option.bind_some] at h;unfold Aa9 at h4;rw[Bool.and_eq_true] at h4;obtain⟨h6,h7⟩:=h4;split at h
  ·rename_i En;have hdf':ls.df=true:=En;rw[hdf'] at h6;cases hb:ls.bd with
   |none=>rw[hb] at h6;cases h6
   |some u=>
    rw[hb] at h7;simp only[Bool.and_eq_true,decide_eq_true_eq] at h7;obtain⟨g1,g2,g3⟩:=h7;simp only[LS.sy,hb,q_b] at h;subst h;rw[show ((n.toNat:Nat):Int)=n by omega] at g1 g3;obtain⟨a,c⟩:=Amt (i:=i.toNat) (j:=j.toNat) (by omega) (by omega) u _ g1;exact⟨⟨c (by omega),a,by rw[Aod];exact g2⟩,by rw[Aie];exact g3⟩
  ·cases h
 ·unfold SyT.B symT at h;rw[if_neg hr] at h;cases h
theorem plib:Ss symT.B:=by
 refine⟨fun n i j hn hi hj=>?_,fun n i j b hb=>(Abw hb).1⟩
 by_cases hr:(1<=n/\n<=21)/\(0<=i/\i<1000)/\(0<=j/\j<1000)
 ·obtain⟨tx,ls,h1,h2,h3,h4,h5⟩:=Af2 hr;have h:=Ats (i:=i.toNat) (j:=j.toNat) h1 h3 h2 (by omega) (by omega);rw[show (((n-1).toNat+1:Nat):Int)=n by omega,show ((i.toNat:Nat):Int)=i by omega,show ((j.toNat:Nat):Int)=j by omega] at h;refine⟨.str (bs ls.nm),.dsl 5 ((ls.ps.map (LT.tm i.toNat j.toNat)).map tv),tv (ls.ty.tm i.toNat j.toNat),(ls.sy i.toNat j.toNat).bd,ls.df,true,Ae _,?_,?_⟩
  ·have e:Vd ls i.toNat j.toNat=tv (ls.sy i.toNat j.toNat).bd:=by
    unfold Vd LS.sy;cases ls.bd<;>rfl
   rw[<-e];exact h
  ·unfold SyT.B;rw[h5];cases hd:ls.df<;>simp[LS.sy,hd]
 ·refine⟨.str (bs []),.nils,zr,zt,false,false,rfl,(Att hr).weaken A6o,?_⟩;unfold SyT.B symT;rw[if_neg hr];rfl
section
variable{tx:By}{L:List Tok}{k i j:Nat}{nm:SV}{cw:By}{done:List Tm}{ns:List By}{ts r:List Tok}{lt:LT}
theorem Baz{r:List Tok}{e:Nat}:∀(ts:List Tok) (d:Nat),Il d ts=some (e,r)->r <:+ ts:=by
 intro ts
 induction ts with
 |nil=>intro d h;simp[Il] at h
 |cons t ts ih=>
  intro d h;have key:∀d',Il d' ts=some (e,r)->r <:+ t::ts:=fun d' h=>(ih d' h).trans (List.suffix_cons t ts)
  have fin:∀x:Nat,some (x,ts)=some (e,r)->r <:+ t::ts:=fun x h=>by cases h;exact List.suffix_cons _ _
  unfold Il at h;split at h
  ·exact key _ h
  ·split at h
   ·match d,h with
    |0,h=>cases h
    |1,h=>exact fin _ h
    |d+2,h=>exact key _ h
   ·split at h
    ·exact fin _ h
    ·exact key _ h
theorem Zp{ts r:List Tok}(hp:Kx tx ns ts=some (lt,r))(hd:L.drop k=ts)(hL:L.length<1000000)(Gl:tx.length<100000)(Eb:ns.length<=200000)(hi:i<1000)(hj:j<1000) :
  ∃k' w,L.drop k'=r/\Ad 127 [lnR tx L k] [.gp 0 0] (.ret (.str (bs w))) [lnR tx L k']/\∀nm,NmP nm ns->Con 126 [.str (bs w),nm,.int .i64 i,.int .i64 j] (.tup [.agg true (tv (lt.tm i j)),.int .i64 0,.int .i64 0]):=by
 match ts,hp with
 |[],hp=>cases hp
 |t::ts,hp=>
  unfold Kx at hp;dsimp only at hp;cases hq:Il 0 (t::ts) with
  |none=>rw[hq] at hp;cases hp
  |some q=>
   obtain⟨e,r1⟩:=q;rw[hq] at hp;dsimp only at hp;split at hp
   ·rename_i he;cases hr:Abj ns ((tx.drop t.p).take (e-t.p)) with
    |none=>rw[hr] at hp;cases hp
    |some x=>
     rw[hr] at hp;cases hp;have Ab:=Abc _ _ hq;have Di:(t::ts).length<=L.length:=by rw[<-hd,List.length_drop];omega
     simp only[List.length_cons] at Ab Di;refine⟨_,_,?_,A2r (G:=[]) (by omega) hd hq rfl he.1 he.2 (by omega) (by omega),fun nm hnm=>Au8 hr hnm Eb (by simp;omega) hi hj⟩;rw[<-List.drop_drop,hd];exact (List.suffix_iff_eq_drop.1 (Baz _ _ hq)).symm
   ·cases hp
def Nd(a b:SV)(df:Bool):List SV:=[a,b,.int .i64 0,.int .i64 0,.int .i64 0,.int .i64 0,.nils,.int .i64 0,.int .i64 0,.int .i64 0,.int .i64 0,.nils,.bool df]
def sA(tx:By)(L:List Tok)(k i j:Nat)(cw:By)(df:Bool):St:=
 ⟨(.J::.int .i64 i::.int .i64 j::.J::.J::.J::.ref 1 0 0 0::.J::.gp 0 0::.ref 2 0 0 0::.nils::.J::.J::.J::.J::.J::.J::.J::.J::.J::.J::.J::.J::.J::.J::.J::.J::.J::.J::.J::.J::.J::.J::.J::.J::.J::.J::.J::.J::.J::.J::.J::.J::.J::.J::.J::.J::.J::.J::.J::.J::.J::.J::.J::.J::.J::.J::.J::.J::.J::.J::.J::.J::.J::.J::.J::.J::.J::.J::.J::.J::.J::.J::.J::.J::.J::.J::.J::.J::.J::.J::.J::.J::.J::.J::.J::.J::.J::.J::.J::.J::.J::.J::.J::.J::.J::.J::.J::.J::.J::.J::.J::.J::.J::.J::.J::.J::.J::.J::.J::.J::.J::.J::.J::.J::.J::.J::.J::.J::.J::.J::.J::.J::.J::.J::.J::.J::.J::.J::.J::.J::.J::.J::.J::.J::.J::.J::.J::.J::.J::.J::.J::.J::.J::.J::.J::.J::.J::.J::.J::.J::.J::.J::.J::.J::.J::.J::.J::.J::.J::.J::.J::.J::.J::.J::.J::.J::.J::.J::.J::[]),[gOb [lnR tx L k],⟨true,13,[Nd (.str (bs [])) .nils false],0,0,true⟩,⟨true,13,[Nd (.str (bs cw)) .nils df],0,0,true⟩]⟩
def sB(tx:By)(L:List Tok)(k i j:Nat)(cw:By)(df:Bool)(x:Nat)(a0:List SV)(w0:SV)(done:List Tm)(ns:List By):St:=
 ⟨(.J::.int .i64 i::.int .i64 j::.J::.J::.J::.ref 1 0 0 0::.J::.gp 0 0::.ref 2 0 0 0::.osl 7 x 0 (x+1)::.J::.J::.J::.J::.J::.J::.J::.J::.J::.J::.J::.J::.J::.J::.J::.J::.J::.J::.J::.J::.J::.J::.J::.J::.J::.J::.J::.J::.J::.J::.J::.J::.J::.J::.J::.J::.J::.J::.J::.J::.J::.J::.J::.J::.J::.J::.J::.J::.J::.J::.J::.J::.J::.J::.J::.J::.J::.J::.J::.J::.J::.J::.J::.J::.J::.J::.J::.J::.J::.J::.J::.J::.J::.J::.J::.J::.J::.J::.J::.J::.J::.J::.J::.J::.J::.J::.J::.J::.J::.J::.J::.J::.J::.J::.J::.J::.J::.J::.J::.J::.J::.J::.J::.J::.J::.J::.J::.J::.J::.J::.J::.J::.J::.J::.J::.J::.J::.J::.J::.J::.J::.J::.J::.J::.J::.J::.J::.J::.J::.J::.J::.J::.J::.J::.J::.J::.J::.J::.J::.J::.J::.J::.J::.J::.J::.J::.J::.J::.J::.J::.J::.J::.J::.J::.J::.J::.J::.J::.J::[]),[gOb [lnR tx L k],⟨true,13,[Nd (.str (bs [])) .nils false],0,0,true⟩,⟨true,13,[Nd (.str (bs cw)) (.osl 5 x 0 (x+1)) df],0,0,false⟩,⟨true,5,[a0],0,0,true⟩,⟨false,5,[a0],0,0,true⟩,⟨false,5,done.map tv,x,x,true⟩,⟨false,1,[[w0]],0,0,true⟩,⟨false,1,ns.reverse.map wdR,x,x,true⟩]⟩
def Kj(R:SV)(m:Nat)(s:St):Prop:=
 vcI (Av Tryz.prog fun _ _=>False) a112_26 (bk 0 (sq (Av Tryz.prog fun _ _=>False) a112_40 (rt [.cell 6 true 13,.t 7] R))) m s
theorem Bes{df:Bool}{R:SV}{t u z:Tok}{r1 r2:List Tok}{a:LT}(hL:L.length<1000000)(Gl:tx.length<100000)(hi:i<1000)(hj:j<1000)(hd:L.drop k=t::u::r1)(ht:t.k=1)(ha:Kx tx [] r1=some (a,z::r2))
  (H:∀k',L.drop k'=r2->∃q,Kj R q (sB tx L k' i j cw df 0 (tv (a.tm i j)) (.str (bs u.w)) [a.tm i j] [u.w])):∃q,Kj R q (sA tx L k i j cw df):=by
 obtain⟨a1,a2,a3,a4,a5,a6,a7,a8,a9,a10⟩:=Dl hd;have Id:L.length<1000000000000:=by omega
 have a6:=a6 Id;have a10:=a10 Id;have d1:=As hd;obtain⟨b1,b2,b3,b4,b5,b6,b7,b8,b9,b10⟩:=Dl d1;have d2:=As d1;obtain⟨k1,w,d3,c1,c2⟩:=Zp (i:=i) (j:=j) ha d2 hL Gl (by simp) hi hj;have c2:=c2 .nils (.inl ⟨rfl,rfl⟩);obtain⟨e1,e2,e3,e4,e5,e6,e7,e8,e9,e10⟩:=Dl d3;have e6:=e6 Id;have Ci:=Ae (a.tm i j);have hw2:IntKind.i64.wrap ((k:Int)+2)=((k+1+1:Nat):Int):=by rw[w64 (by unfold fit;omega)];omega
 have ek:((t.k:Int)==1)=true:=by rw[ht];rfl
 obtain⟨q,h2⟩:=H (k1+1) (As d3);refine⟨q+1,Aj ?_⟩;unfold Kj sB at h2;unfold sA Nd;unfold Nd at h2;unfold lnR at c1 h2 |-;simp only[go_sem,seval,a1,a2,a3,a4,a6,a8,a9,a10,b1,b2,b3,b4,forall_const,q_g,ek,hw2];refine Ac c1 ?_;simp only[go_sem,seval,q_g];refine Aa c2 ?_;simp only[go_sem,seval,Ci,e6,q_g];simp only[q_h,q_i,List.reverse_cons,List.reverse_nil,List.nil_append,wdR,Nat.zero_add] at h2;exact Cp (Au (by simp[An])) h2
theorem Beu{df:Bool}{R:SV}{t u z:Tok}{r1 r2:List Tok}{a:LT}{x:Nat}{a0:List SV}{w0:SV}(hL:L.length<1000000)(Gl:tx.length<100000)(hi:i<1000)(hj:j<1000)(hD:done.length=x+1)(hN:ns.length=x+1)(hx:x<100000)(hd:L.drop k=t::u::r1)(ht:t.k=1)(ha:Kx tx ns r1=some (a,z::r2))
  (H:∀k',L.drop k'=r2->∃q,Kj R q (sB tx L k' i j cw df (x+1) a0 w0 (done++[a.tm i j]) (u.w::ns))):∃q,Kj R q (sB tx L k i j cw df x a0 w0 done ns):=by
 obtain⟨a1,a2,a3,a4,a5,a6,a7,a8,a9,a10⟩:=Dl hd;have Id:L.length<1000000000000:=by omega
 have a6:=a6 Id;have a10:=a10 Id;have d1:=As hd;obtain⟨b1,b2,b3,b4,b5,b6,b7,b8,b9,b10⟩:=Dl d1;have d2:=As d1;obtain⟨k1,w,d3,c1,c2⟩:=Zp (i:=i) (j:=j) ha d2 hL Gl (by omega) hi hj;have c2:=c2 (nmV ns) (.inr rfl);obtain⟨e1,e2,e3,e4,e5,e6,e7,e8,e9,e10⟩:=Dl d3;have e6:=e6 Id;have Ci:=Ae (a.tm i j);have hw2:IntKind.i64.wrap ((k:Int)+2)=((k+1+1:Nat):Int):=by rw[w64 (by unfold fit;omega)];omega
 have ek:((t.k:Int)==1)=true:=by rw[ht];rfl
 obtain⟨q,h2⟩:=H (k1+1) (As d3);refine⟨q+1,Aj ?_⟩;unfold Kj sB at h2;unfold sB Nd;unfold Nd at h2;have hDl:(done.map tv).length=x+1:=by simp[hD]
 have Cq:(ns.reverse.map wdR).length=x+1:=by simp[hN]
 simp only[List.map_append,q_h,q_i,List.reverse_cons,wdR] at h2;unfold nmV at c2;unfold lnR at c1 h2 |-;generalize done.map tv=D at *
 generalize ns.reverse.map wdR=M at *
 have Qk:M.take (x+1)=M:=List.take_of_length_le (by omega);have g1:(x+1+1)*56<=140737488355328:=by omega
 have g2:(x+1+1)*16<=140737488355328:=by omega
 have g3:x+1+1<=140737488355328:=by omega
 have g4:x+1<=140737488355327:=by omega
 simp only[go_sem,seval,a1,a2,a3,a4,a6,a8,a9,a10,b1,b2,b3,b4,forall_const,q_g,ek,hw2];refine Ac c1 ?_;simp only[go_sem,seval,q_g,Qk];refine Aa c2 ?_;simp only[go_sem,seval,Ci,e6,q_g,hDl,Cq,g1,g2,g3,g4];exact Cp (Dq 8 (by simp[An]) (by simp) (by simp[Ba]) (by simp[gOb,Ba])) h2
theorem Beq{t:Tok}{r1 r2:List Tok}{ty:LT}{x:Nat}{a0:List SV}{w0:SV}(hL:L.length<1000000)(Gl:tx.length<100000)(hi:i<1000)(hj:j<1000)(hD:done.length=x+1)(hN:ns.length=x+1)(hx:x<100000)(hd:L.drop k=t::r1)(ht:t.k≠1)(ha:Kx tx ns r1=some (ty,r2)) :
  Kj (Lt cw done (ty.tm i j) zr false) 1 (sB tx L k i j cw false x a0 w0 done ns):=by
 obtain⟨a1,a2,a3,a4,a5,a6,a7,a8,a9,a10⟩:=Dl hd;have Id:L.length<1000000000000:=by omega
 have a6:=a6 Id;have a10:=a10 Id;have d1:=As hd;obtain⟨k1,w,d3,c1,c2⟩:=Zp (i:=i) (j:=j) ha d1 hL Gl (by omega) hi hj;have c2:=c2 (nmV ns) (.inr rfl);have ek:((t.k:Int)==1)=false:=by rw[beq_eq_false_iff_ne];omega
 refine Aj ?_;unfold sB Nd Lt zr;have hDl:(done.map tv).length=x+1:=by simp[hD]
 have Cq:(ns.reverse.map wdR).length=x+1:=by simp[hN]
 unfold nmV at c2;unfold lnR at c1 |-;generalize done.map tv=D at *
 generalize ns.reverse.map wdR=M at *
 have Qk:M.take (x+1)=M:=List.take_of_length_le (by omega);have Yu:D.take (x+1)=D:=List.take_of_length_le (by omega);generalize ty.tm i j=tt at *
 cases tt with
 |mk tk ti tj tn tl=>
  rw[Ak] at c2 |-;simp only[go_sem,seval,a1,a2,a3,a4,a6,a8,a9,a10,forall_const,q_g,ek];refine Ac c1 ?_;simp only[go_sem,seval,q_g,Qk];refine Aa c2 ?_;simp only[go_sem,seval,q_g,Qk,Yu,spl2]
theorem Ber{t:Tok}{r1 r2 r3:List Tok}{ty bd:LT}{x:Nat}{a0:List SV}{w0:SV}(hL:L.length<1000000)(Gl:tx.length<100000)(hi:i<1000)(hj:j<1000)(hD:done.length=x+1)(hN:ns.length=x+1)(hx:x<100000)(hd:L.drop k=t::r1)(ht:t.k≠1)(ha:Kx tx ns r1=some (ty,r2))(hb:Kx tx ns r2=some (bd,r3)) :
  Kj (Lt cw done (ty.tm i j) (tv (bd.tm i j)) true) 1 (sB tx L k i j cw true x a0 w0 done ns):=by
 obtain⟨a1,a2,a3,a4,a5,a6,a7,a8,a9,a10⟩:=Dl hd;have Id:L.length<1000000000000:=by omega
 have a6:=a6 Id;have a10:=a10 Id;have d1:=As hd;obtain⟨k1,w,d3,c1,c2⟩:=Zp (i:=i) (j:=j) ha d1 hL Gl (by omega) hi hj;obtain⟨k2,w2,d4,c3,c4⟩:=Zp (i:=i) (j:=j) hb d3 hL Gl (by omega) hi hj;have c2:=c2 (nmV ns) (.inr rfl);have c4:=c4 (nmV ns) (.inr rfl);have ek:((t.k:Int)==1)=false:=by rw[beq_eq_false_iff_ne];omega
 refine Aj ?_;unfold sB Nd Lt;have hDl:(done.map tv).length=x+1:=by simp[hD]
 have Cq:(ns.reverse.map wdR).length=x+1:=by simp[hN]
 unfold nmV at c2 c4;unfold lnR at c1 c3 |-;generalize done.map tv=D at *
 generalize ns.reverse.map wdR=M at *
 have Qk:M.take (x+1)=M:=List.take_of_length_le (by omega);have Yu:D.take (x+1)=D:=List.take_of_length_le (by omega);generalize ty.tm i j=tt at *
 generalize bd.tm i j=bt at *
 cases tt with
 |mk tk ti tj tn tl=>
  cases bt with
  |mk uk ui uj un ul=>
   rw[Ak] at c2 c4 |-;rw[Ak];simp only[go_sem,seval,a1,a2,a3,a4,a6,a8,a9,a10,forall_const,q_g,ek];refine Ac c1 ?_;simp only[go_sem,seval,q_g,Qk];refine Aa c2 ?_;simp only[go_sem,seval,q_g,Qk,Yu,spl2];refine Ac c3 ?_;simp only[go_sem,seval,q_g,Qk,Yu,spl2];refine Aa c4 ?_;simp only[go_sem,seval,q_g,Qk,Yu,spl2,spl7,List.cons_append,List.nil_append]
theorem Bet{df:Bool}{R:SV}{nsE:List By}{psE:List LT}{rE:List Tok}{a0:List SV}{w0:SV}(hL:L.length<1000000)(Gl:tx.length<100000)(hi:i<1000)(hj:j<1000)
  (Xm:∀k' t x,psE.length=x+1->nsE.length=x+1->x<100000->L.drop k'=t::rE->t.k≠1->Kj R 1 (sB tx L k' i j cw df x a0 w0 (psE.map (LT.tm i j)) nsE)) :
  ∀(g:Nat) (ns:List By) (ps:List LT) (ts:List Tok) (k x:Nat),Wm tx g ns ps ts=some (nsE,psE,rE)->ps.length=x+1->ns.length=x+1->x+g<100000->L.drop k=ts->∃q,Kj R q (sB tx L k i j cw df x a0 w0 (ps.map (LT.tm i j)) ns):=by
 intro g
 induction g with
 |zero=>intro ns ps ts k x h;cases h
 |succ g ih=>
  intro ns ps ts k x h hp hn hx hd
  match ts,h with
  |[],h=>cases h
  |t::r1,h=>
   unfold Wm at h;dsimp only at h;split at h
   ·rename_i ht
    match r1,h with
    |[],h=>cases h
    |u::r2,h=>
     dsimp only at h;cases ha:Kx tx ns r2 with
     |none=>rw[ha] at h;cases h
     |some p=>
      obtain⟨a,r3⟩:=p;rw[ha] at h
      match r3,h,ha with
      |[],h,_=>cases h
      |z::r4,h,ha=>
       dsimp only at h;refine Beu hL Gl hi hj (by simp[hp]) hn (by omega) hd ht ha (fun k' hk=>?_);have:=ih (u.w::ns) (ps++[a]) r4 k' (x+1) h (by simp[hp]) (by simp[hn]) (by omega) hk
       rwa [List.map_append,q_h,q_i] at this
   ·rename_i ht;cases h;exact⟨1,Xm k t x hp hn (by omega) hd ht⟩
end
theorem Ah3{n i j:Nat}{tx:By}{L:List Tok}{a b c d:Tok}{r0:List Tok}{R:SV}(hn:libL[n]?=some tx)(Hh:Lx tx 0 L)(hL:L=a::b::c::d::r0)(Gl:tx.length<100000)(hi:i<1000)(hj:j<1000)(hNR:NoG R)(hq:∃q,Kj R q (sA tx L 4 i j c.w (b.w==[100,101,102]))) :
  Con 112 [.int .i64 ((n+1:Nat):Int),.int .i64 i,.int .i64 j] R:=by
 have Ag:libL.length=21:=rfl;have Bu:∀(m:Nat) v,libL[m]?=some v->(libL.map wdR)[m]?.getD []=[.str (bs v)]:=fun m v hv=>by rw[List.getElem?_map,hv];rfl
 have hnl:=(List.getElem?_eq_some_iff.1 hn).1;have cl:=Acy;generalize libL=lb at *
 have hLl:=Zi Hh;have cx:=Ahs (by omega) Hh (by rw[hL];simp) (by omega);have d0:L.drop 0=a::b::c::d::r0:=by rw[List.drop_zero,hL]
 have d1:=As d0;have d2:=As d1;obtain⟨b1,b2,b3,b4,b5,b6,b7,b8,b9,b10⟩:=Dl d1;obtain⟨e1,e2,e3,e4,e5,e6,e7,e8,e9,e10⟩:=Dl d2;have b10:=b10 (by omega);have Ed:∀x∈[SV.int .i64 ((n+1:Nat):Int),.int .i64 i,.int .i64 j],NoG x:=fun x hx=>by
  simp only[List.mem_cons,List.not_mem_nil,or_false] at hx;rcases hx with rfl|rfl|rfl<;>exact .int _ _
 refine o9 mixed Tryz.func112 tr112 Ed hNR ?_;have i1:¬((n+1:Nat):Int)<1:=by omega
 have i2:¬((n+1:Nat):Int) > 21:=by omega
 have i3:¬(i:Int)<0:=by omega
 have i4:¬(j:Int)<0:=by omega
 have i5:¬(i:Int) >= 1000:=by omega
 have i6:¬(j:Int) >= 1000:=by omega
 have i7:IntKind.i64.wrap (((n+1:Nat):Int)-1)=(n:Int):=by rw[w64 (by unfold fit;omega)];omega
 have i8:(0:Int)<=(n:Int):=by omega
 have i9:(n:Int)<21:=by omega
 have i10:n<21:=by omega
 have i11:(21:Nat)<=140737488355328:=by decide
 have b2':(1:Int)<(L.length:Int):=by omega
 have e2':(2:Int)<(L.length:Int):=by omega
 have b1':1<L.length:=by omega
 have e1':2<L.length:=by omega
 have b4':(L.map Ex)[1]?.getD []=[.int .i64 b.k,.str (bs b.w),.int .i64 b.p]:=b4;have e4':(L.map Ex)[2]?.getD []=[.int .i64 c.k,.str (bs c.w),.int .i64 c.p]:=e4;simp only[go_sem,seval,i3,i4,decide_eq_false i5,decide_eq_false i6,decide_eq_false i1,decide_eq_false i2];refine Aa cl ?_;simp only[go_sem,seval,q_g,Ag,i1,i2,i3,i4,decide_eq_false i5,decide_eq_false i6,decide_eq_false i1,decide_eq_false i2,i7,i8,i9,i10,i11,forall_const,Bu n tx hn];refine Aa cx ?_;simp only[go_sem,seval,q_g,b1',b2',b4',b10,e1',e2',e4',forall_const];obtain⟨q,h2⟩:=hq;unfold Kj sA Nd lnR at h2;exact Ca q (Cp (Au (by simp[An])) h2)
theorem Avx{n i j:Nat}{tx:By}{ls:LS}(hn:libL[n]?=some tx)(Bb:Aax tx=some ls)(Mp:ls.ps≠[])(Gl:tx.length<10000)(hi:i<1000)(hj:j<1000) :
  Con 112 [.int .i64 ((n+1:Nat):Int),.int .i64 i,.int .i64 j] (Lt ls.nm (ls.ps.map (LT.tm i j)) (ls.ty.tm i j) (Vd ls i j) ls.df):=by
 unfold Aax at Bb;cases Hh:Hl (tx.length+1) 0 tx with
 |none=>rw[Hh] at Bb;cases Bb
 |some L=>
  rw[Hh] at Bb;have hx:=Ae9 Hh;have Di:=Zi hx
  match L,Bb,hx,Di with
  |[],Bb,_,_=>cases Bb
  |[_],Bb,_,_=>cases Bb
  |[_,_],Bb,_,_=>cases Bb
  |[_,_,_],Bb,_,_=>cases Bb
  |a::b::c::d::r,Bb,hx,Di=>
   dsimp only at Bb;have d4:(a::b::c::d::r).drop 4=r:=rfl;simp only[List.length_cons] at Di;have Jv:(a::b::c::d::r).length<1000000:=by simp only[List.length_cons];omega
   cases hp:Wm tx r.length [] [] r with
   |none=>rw[hp] at Bb;cases Bb
   |some p=>
    obtain⟨nsE,psE,r1⟩:=p;rw[hp] at Bb;dsimp only at Bb;cases Gf:Kx tx nsE r1 with
    |none=>rw[Gf] at Bb;cases Bb
    |some p2=>
     obtain⟨ty,r2⟩:=p2;rw[Gf] at Bb;dsimp only at Bb;have key:∀(R:SV) (df:Bool),psE≠[]->(∀a0 w0 k' t x,psE.length=x+1->nsE.length=x+1->x<100000->(a::b::c::d::r).drop k'=t::r1->t.k≠1->Kj R 1 (sB tx (a::b::c::d::r) k' i j c.w df x a0 w0 (psE.map (LT.tm i j)) nsE))->∃q,Kj R q (sA tx (a::b::c::d::r) 4 i j c.w df):=fun R df Ar Xm=>by
      match r,hp,d4,Jv with
      |[],hp,_,_=>cases hp
      |t::s1,hp,d4,Jv=>
       rw[List.length_cons] at hp;unfold Wm at hp;dsimp only at hp;split at hp
       ·rename_i ht
        match s1,hp,d4,Jv with
        |[],hp,_,_=>cases hp
        |u::s2,hp,d4,Jv=>
         dsimp only at hp;cases ha:Kx tx [] s2 with
         |none=>rw[ha] at hp;cases hp
         |some p=>
          obtain⟨a1,s3⟩:=p;rw[ha] at hp
          match s3,hp,ha with
          |[],hp,_=>cases hp
          |z::s4,hp,ha=>
           dsimp only at hp;refine Bes Jv (by omega) hi hj d4 ht ha (fun k' hk=>?_);have:=Bet (df:=df) (cw:=c.w) (a0:=tv (a1.tm i j)) (w0:=.str (bs u.w)) Jv (by omega) hi hj (Xm _ _) (s2.length+1) [u.w] [a1] s4 k' 0 hp rfl rfl (by simp only[List.length_cons] at Di;omega) hk;exact this
       ·cases hp;exact absurd rfl Ar
     split at Bb
     ·rename_i En;cases On:Kx tx nsE r2 with
      |none=>rw[On] at Bb;cases Bb
      |some p3=>
       obtain⟨bd,r3⟩:=p3;rw[On] at Bb;cases Bb;refine Ah3 hn hx rfl (by omega) hi hj (Aa5 (Ui _)) ?_;rw[En];exact key _ true Mp (fun a0 w0 k' t x h1 h2 h3 h4 h5=>Ber Jv (by omega) hi hj (by simpa using h1) h2 h3 h4 h5 Gf On)
     ·rename_i En;have En:(b.w==[100,101,102])=false:=by simpa using En
      cases Bb;refine Contract.weaken (Ah3 hn hx rfl (by omega) hi hj (Aa5 (bd:=zr) Aml) ?_) Ald;rw[En];exact key _ false Mp (fun a0 w0 k' t x h1 h2 h3 h4 h5=>Beq Jv (by omega) hi hj (by simpa using h1) h2 h3 h4 h5 Gf)
theorem A7b:libL.map Aax=libL.map Qr:=by kernel_rfl
theorem A7a:libL.all (fun tx=>decide (tx.length<10000) && (match Qr tx with|some ls=>!ls.ps.isEmpty|none=>false))=true:=by kernel_rfl
def Amm:SV:=.tup [.agg true [.str (bs []),.nils,.int .i64 0,.int .i64 0,.int .i64 0,.int .i64 0,.nils,.int .i64 0,.int .i64 0,.int .i64 0,.int .i64 0,.nils,.bool false],.bool false]
theorem Avy{n i j:Int}(h:¬((1<=n/\n<=21)/\(0<=i/\i<1000)/\(0<=j/\j<1000))):Con 112 [.int .i64 n,.int .i64 i,.int .i64 j] Amm:=by
 refine Al mixed Tryz.func112 tr112 ?_;unfold Amm;simp only[go_sem,seval]
 by_cases h1:n<1
 ·simp only[go_sem,seval,decide_eq_true h1]
 by_cases h2:n > 21
 ·simp only[go_sem,seval,forall_const,decide_eq_false h1,decide_eq_true h2]
 by_cases h3:i<0
 ·simp only[go_sem,seval,forall_const,decide_eq_false h1,decide_eq_false h2,decide_eq_true h3]
 by_cases h4:i >= 1000
 ·simp only[go_sem,seval,forall_const,decide_eq_false h1,decide_eq_false h2,decide_eq_false h3,decide_eq_true h4]
 by_cases h5:j<0
 ·simp only[go_sem,seval,forall_const,decide_eq_false h1,decide_eq_false h2,decide_eq_false h3,decide_eq_false h4,decide_eq_true h5]
 by_cases h6:j >= 1000
 ·simp only[go_sem,seval,forall_const,decide_eq_false h1,decide_eq_false h2,decide_eq_false h3,decide_eq_false h4,decide_eq_false h5,decide_eq_true h6]
 ·exact absurd ⟨⟨by omega,by omega⟩,⟨by omega,by omega⟩,by omega,by omega⟩ h
theorem Al3:Lib symT:=by
 refine⟨fun n i j hn hi hj=>?_,fun n i j s hs hd=>?_⟩
 ·by_cases hr:(1<=n/\n<=21)/\(0<=i/\i<1000)/\(0<=j/\j<1000)
  ·obtain⟨tx,ls,h1,h2,h3,h4,h5⟩:=Af2 hr;have h6:Aax tx=some ls:=by
    have e:=congrArg (fun l=>l[(n-1).toNat]?) A7b;simp only[List.getElem?_map,h1,Option.map_some,q_b] at e;rw[e];exact h3
   have h7:=List.all_eq_true.1 A7a _ (List.mem_of_getElem? h1);rw[h3,Bool.and_eq_true] at h7;have h:=Avx (i:=i.toNat) (j:=j.toNat) h1 h6 (by
    intro e;have h8:=h7.2;simp[e] at h8) (of_decide_eq_true h7.1) (by omega) (by omega)
   rw[show (((n-1).toNat+1:Nat):Int)=n by omega,show ((i.toNat:Nat):Int)=i by omega,show ((j.toNat:Nat):Int)=j by omega] at h;have e:Vd ls i.toNat j.toNat=tv (ls.sy i.toNat j.toNat).bd:=by
    unfold Vd LS.sy;cases ls.bd<;>rfl
   rw[e] at h;exact⟨fun s hs=>by rw[h5] at hs;cases hs;exact h,fun hs=>by rw[h5] at hs;cases hs⟩
  ·refine⟨fun s hs=>?_,fun _=>Avy hr⟩;unfold symT at hs;rw[if_neg hr] at hs;cases hs
 ·have hb:symT.B n i j=some s.bd:=by
   unfold SyT.B;rw[hs,Option.bind_some,hd];rfl
  exact⟨(Abw hb).1.sf,(Abw hb).2⟩
theorem l7:Gv symT.B:=fun n i j b hb=>(Abw hb).1.sf
end Go.Proofs.YtdpigpopcbjkmaaGreatDoor.Abs
