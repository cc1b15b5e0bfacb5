import Derived.Test.YtdpigpopcbjkmaaGreatDoorXTw
import Derived.Test.YtdpigpopcbjkmaaGreatDoorXUa
import Derived.Test.YtdpigpopcbjkmaaGreatDoorXRw
import Derived.Laws.FloatArith
import Derived.Test.YtdpigpopcbjkmaaGreatDoorProg
import Derived.Test.YtdpigpopcbjkmaaGreatDoorChecked
import Derived.WalkKit
import Derived.WalkLawsBesides
import Derived.Test.YtdpigpopcbjkmaaGreatDoorXPj
import Derived.Test.YtdpigpopcbjkmaaGreatDoorXVb
import Derived.Test.YtdpigpopcbjkmaaGreatDoorXTs
import Derived.Test.YtdpigpopcbjkmaaGreatDoorXFg
set_option linter.unusedSimpArgs false
set_option linter.unusedVariables false
set_option maxRecDepth 20000
set_option maxHeartbeats 4000000
namespace Go.Proofs.YtdpigpopcbjkmaaGreatDoor.Abs
open Go Go.RowKit Go.Proofs.YtdpigpopcbjkmaaGreatDoor
def LS.sy(i j:Nat)(ls:LS):Sy:=⟨ls.nm,ls.ps.map (LT.tm i j),ls.ty.tm i j,(match ls.bd with
 |some b=>b.tm i j
 |none=>zt),ls.df⟩
def symT:SyT:=fun n i j=>if (1<=n/\n<=21)/\(0<=i/\i<1000)/\(0<=j/\j<1000) then ((libL[(n-1).toNat]?).bind Qr).map (LS.sy i.toNat j.toNat) else none
theorem A9m:∀{l:List By} {m n:Nat} {tx:By},Abd n l=true->l[m]?=some tx->∃ls,Qr tx=some ls/\Abe (n+m) ls=true:=by
 intro l
 induction l with
 |nil=>intro m n tx _ h;cases h
 |cons a l ih=>
  intro m n tx h hm;rw[Abd,Bool.and_eq_true] at h;cases m with
  |zero=>
   simp only[List.getElem?_cons_zero,q_b] at hm;subst hm;obtain⟨h1,_⟩:=h;split at h1
   ·rename_i ls Bc;exact⟨ls,Bc,h1⟩
   ·cases h1
  |succ m=>
   obtain⟨ls,h1,h2⟩:=ih h.2 (by simpa using hm);exact⟨ls,h1,by rwa [show n+1+m=n+(m+1) by omega] at h2⟩
theorem Af2{n i j:Int}(h:(1<=n/\n<=21)/\(0<=i/\i<1000)/\(0<=j/\j<1000)):∃tx ls,libL[(n-1).toNat]?=some tx/\tx.length<100000/\Qr tx=some ls/\Abe n.toNat ls=true/\symT n i j=some (ls.sy i.toNat j.toNat):=by
 have Ah:libL.length=21:=rfl;have Ab:(n-1).toNat<libL.length:=by omega
 have h1:libL[(n-1).toNat]?=some libL[(n-1).toNat]:=q_f Ab;obtain⟨ls,h2,h3⟩:=A9m Ap7 h1;have h4:=List.all_eq_true.1 A7k _ (List.getElem_mem Ab);rw[Bool.and_eq_true] at h4;refine⟨_,ls,h1,of_decide_eq_true h4.2,h2,by rwa [show 1+(n-1).toNat=n.toNat by omega] at h3,?_⟩;unfold symT;rw[if_pos h,h1,Option.bind_some,h2,Option.map_some]
def Agj:SV:=.tup [.agg true [.str (bs []),.nils,.int .i64 0,.int .i64 0,.int .i64 0,.int .i64 0,.nils,.int .i64 0,.int .i64 0,.int .i64 0,.int .i64 0,.nils,.bool false],.bool false]
theorem At7{n i j:Int}(h:¬((1<=n/\n<=21)/\(0<=i/\i<1000)/\(0<=j/\j<1000))):Con 72 [.int .i64 n,.int .i64 i,.int .i64 j] Agj:=by
 have Ah:libL.length=21:=rfl;have cl:=Ac1;generalize libL=lb at *
 have hb:(21:Nat)<=140737488355328:=by decide
 refine Al mixed Tryz.func72 tr72 ?_;unfold Agj;simp only[go_sem,seval];refine Aa cl ?_
 by_cases h1:n<1
 ·simp only[go_sem,seval,q_g,Ah,hb,decide_eq_true h1]
 by_cases h2:n > 21
 ·simp only[go_sem,seval,q_g,Ah,hb,forall_const,decide_eq_false h1,decide_eq_true h2]
 by_cases h3:i<0
 ·simp only[go_sem,seval,q_g,Ah,hb,forall_const,decide_eq_false h1,decide_eq_false h2,decide_eq_true h3]
 by_cases h4:i >= 1000
 ·simp only[go_sem,seval,q_g,Ah,hb,forall_const,decide_eq_false h1,decide_eq_false h2,decide_eq_false h3,decide_eq_true h4]
 by_cases h5:j<0
 ·simp only[go_sem,seval,q_g,Ah,hb,forall_const,decide_eq_false h1,decide_eq_false h2,decide_eq_false h3,decide_eq_false h4,decide_eq_true h5]
 by_cases h6:j >= 1000
 ·simp only[go_sem,seval,q_g,Ah,hb,forall_const,decide_eq_false h1,decide_eq_false h2,decide_eq_false h3,decide_eq_false h4,decide_eq_false h5,decide_eq_true h6]
 ·exact absurd ⟨⟨by omega,by omega⟩,⟨by omega,by omega⟩,by omega,by omega⟩ h
theorem A6z:Le Agj (.tup [.agg true (.str (bs [])::.nils::(zr++(tv zt++[.bool false]))),.bool false]):=by
 refine .tup _ _ (.cons _ _ _ _ (.agg _ _ ?_) (.cons _ _ _ _ (.cell _ _ (.refl _)) .nil));rw[zt,Am];exact .cons _ _ _ _ (.refl _) (.cons _ _ _ _ (.refl _) (.cons _ _ _ _ (.refl _) (.cons _ _ _ _ (.refl _) (.cons _ _ _ _ (.refl _) (.cons _ _ _ _ (.refl _) (.cons _ _ _ _ (.refl _) (.cons _ _ _ _ (.refl _) (.cons _ _ _ _ (.refl _) (.cons _ _ _ _ (.refl _) (.cons _ _ _ _ (.refl _) (.cons _ _ _ _ (.nils 5) (.cons _ _ _ _ (.refl _) .nil))))))))))))
theorem Ab0{n i j:Int}{b:Tm}(h:symT.B n i j=some b):PT (Bh 23 n).toNat 4000 b/\(Bh 23 n).toNat+dpt b<=1000:=by
 by_cases hr:(1<=n/\n<=21)/\(0<=i/\i<1000)/\(0<=j/\j<1000)
 ·obtain⟨tx,ls,h1,h2,h3,h4,h5⟩:=Af2 hr;unfold SyT.B at h;rw[h5,Option.bind_some] at h;unfold Abe at h4;rw[Bool.and_eq_true] at h4;obtain⟨h6,h7⟩:=h4;split at h
  ·rename_i En;have hdf':ls.df=true:=En;rw[hdf'] at h6;cases hb:ls.bd with
   |none=>rw[hb] at h6;cases h6
   |some u=>
    rw[hb] at h7;simp only[Bool.and_eq_true,decide_eq_true_eq] at h7;obtain⟨g1,g2,g3⟩:=h7;simp only[LS.sy,hb,q_b] at h;subst h;rw[show ((n.toNat:Nat):Int)=n by omega] at g1 g3;obtain⟨a,c⟩:=Ana (i:=i.toNat) (j:=j.toNat) (by omega) (by omega) u _ g1;exact⟨⟨c (by omega),a,by rw[Aos];exact g2⟩,by rw[Aie];exact g3⟩
  ·cases h
 ·unfold SyT.B symT at h;rw[if_neg hr] at h;cases h
theorem plib:Sv symT.B:=by
 refine⟨fun n i j hn hi hj=>?_,fun n i j b hb=>(Ab0 hb).1⟩
 by_cases hr:(1<=n/\n<=21)/\(0<=i/\i<1000)/\(0<=j/\j<1000)
 ·obtain⟨tx,ls,h1,h2,h3,h4,h5⟩:=Af2 hr;have h:=At6 (i:=i.toNat) (j:=j.toNat) h1 h3 h2 (by omega) (by omega);rw[show (((n-1).toNat+1:Nat):Int)=n by omega,show ((i.toNat:Nat):Int)=i by omega,show ((j.toNat:Nat):Int)=j by omega] at h;refine⟨.str (bs ls.nm),.dsl 5 ((ls.ps.map (LT.tm i.toNat j.toNat)).map tv),tv (ls.ty.tm i.toNat j.toNat),(ls.sy i.toNat j.toNat).bd,ls.df,true,Af _,?_,?_⟩
  ·have e:Vj ls i.toNat j.toNat=tv (ls.sy i.toNat j.toNat).bd:=by
    unfold Vj LS.sy;cases ls.bd<;>rfl
   rw[<-e];exact h
  ·unfold SyT.B;rw[h5];cases hd:ls.df<;>simp[LS.sy,hd]
 ·refine⟨.str (bs []),.nils,zr,zt,false,false,rfl,(At7 hr).weaken A6z,?_⟩;unfold SyT.B symT;rw[if_neg hr];rfl
section
variable{tx:By}{L:List Tok}{k i j:Nat}{nm:SV}{cw:By}{done:List Tm}{ns:List By}{ts r:List Tok}{lt:LT}
theorem Ba9{r:List Tok}{e:Nat}:∀(ts:List Tok) (d:Nat),Io d ts=some (e,r)->r <:+ ts:=by
 intro ts
 induction ts with
 |nil=>intro d h;simp[Io] at h
 |cons t ts ih=>
  intro d h;have key:∀d',Io d' ts=some (e,r)->r <:+ t::ts:=fun d' h=>(ih d' h).trans (List.suffix_cons t ts)
  have fin:∀x:Nat,some (x,ts)=some (e,r)->r <:+ t::ts:=fun x h=>by cases h;exact List.suffix_cons _ _
  unfold Io at h;split at h
  ·exact key _ h
  ·split at h
   ·match d,h with
    |0,h=>cases h
    |1,h=>exact fin _ h
    |d+2,h=>exact key _ h
   ·split at h
    ·exact fin _ h
    ·exact key _ h
theorem f6{ts r:List Tok}(hp:Kz tx ns ts=some (lt,r))(hd:L.drop k=ts)(hL:L.length<1000000)(Gp:tx.length<100000)(Eb:ns.length<=200000)(hi:i<1000)(hj:j<1000) :
  ∃k' w,L.drop k'=r/\Ad 127 [lnR tx L k] [.gp 0 0] (.ret (.str (bs w))) [lnR tx L k']/\∀nm,NmP nm ns->Con 126 [.str (bs w),nm,.int .i64 i,.int .i64 j] (.tup [.agg true (tv (lt.tm i j)),.int .i64 0,.int .i64 0]):=by
 match ts,hp with
 |[],hp=>cases hp
 |t::ts,hp=>
  unfold Kz at hp;dsimp only at hp;cases hq:Io 0 (t::ts) with
  |none=>rw[hq] at hp;cases hp
  |some q=>
   obtain⟨e,r1⟩:=q;rw[hq] at hp;dsimp only at hp;split at hp
   ·rename_i he;cases hr:Abm ns ((tx.drop t.p).take (e-t.p)) with
    |none=>rw[hr] at hp;cases hp
    |some x=>
     rw[hr] at hp;cases hp;have Ab:=Abh _ _ hq;have Dc:(t::ts).length<=L.length:=by rw[<-hd,List.length_drop];omega
     simp only[List.length_cons] at Ab Dc;refine⟨_,_,?_,A3d (G:=[]) (by omega) hd hq rfl he.1 he.2 (by omega) (by omega),fun nm hnm=>Avm hr hnm Eb (by simp;omega) hi hj⟩;rw[<-List.drop_drop,hd];exact (List.suffix_iff_eq_drop.1 (Ba9 _ _ hq)).symm
   ·cases hp
def Nc(a b:SV)(df:Bool):List SV:=[a,b,.int .i64 0,.int .i64 0,.int .i64 0,.int .i64 0,.nils,.int .i64 0,.int .i64 0,.int .i64 0,.int .i64 0,.nils,.bool df]
def sA(tx:By)(L:List Tok)(k i j:Nat)(cw:By)(df:Bool):St:=
 ⟨(.J::.int .i64 i::.int .i64 j::.J::.J::.J::.ref 1 0 0 0::.J::.gp 0 0::.ref 2 0 0 0::.nils::.J::.J::.J::.J::.J::.J::.J::.J::.J::.J::.J::.J::.J::.J::.J::.J::.J::.J::.J::.J::.J::.J::.J::.J::.J::.J::.J::.J::.J::.J::.J::.J::.J::.J::.J::.J::.J::.J::.J::.J::.J::.J::.J::.J::.J::.J::.J::.J::.J::.J::.J::.J::.J::.J::.J::.J::.J::.J::.J::.J::.J::.J::.J::.J::.J::.J::.J::.J::.J::.J::.J::.J::.J::.J::.J::.J::.J::.J::.J::.J::.J::.J::.J::.J::.J::.J::.J::.J::.J::.J::.J::.J::.J::.J::.J::.J::.J::.J::.J::.J::.J::.J::.J::.J::.J::.J::.J::.J::.J::.J::.J::.J::.J::.J::.J::.J::.J::.J::.J::.J::.J::.J::.J::.J::.J::.J::.J::.J::.J::.J::.J::.J::.J::.J::.J::.J::.J::.J::.J::.J::.J::.J::.J::.J::.J::.J::.J::.J::.J::.J::.J::.J::.J::.J::.J::.J::.J::.J::.J::[]),[gOb [lnR tx L k],⟨true,13,[Nc (.str (bs [])) .nils false],0,0,true⟩,⟨true,13,[Nc (.str (bs cw)) .nils df],0,0,true⟩]⟩
def sB(tx:By)(L:List Tok)(k i j:Nat)(cw:By)(df:Bool)(x:Nat)(a0:List SV)(w0:SV)(done:List Tm)(ns:List By):St:=
 ⟨(.J::.int .i64 i::.int .i64 j::.J::.J::.J::.ref 1 0 0 0::.J::.gp 0 0::.ref 2 0 0 0::.osl 7 x 0 (x+1)::.J::.J::.J::.J::.J::.J::.J::.J::.J::.J::.J::.J::.J::.J::.J::.J::.J::.J::.J::.J::.J::.J::.J::.J::.J::.J::.J::.J::.J::.J::.J::.J::.J::.J::.J::.J::.J::.J::.J::.J::.J::.J::.J::.J::.J::.J::.J::.J::.J::.J::.J::.J::.J::.J::.J::.J::.J::.J::.J::.J::.J::.J::.J::.J::.J::.J::.J::.J::.J::.J::.J::.J::.J::.J::.J::.J::.J::.J::.J::.J::.J::.J::.J::.J::.J::.J::.J::.J::.J::.J::.J::.J::.J::.J::.J::.J::.J::.J::.J::.J::.J::.J::.J::.J::.J::.J::.J::.J::.J::.J::.J::.J::.J::.J::.J::.J::.J::.J::.J::.J::.J::.J::.J::.J::.J::.J::.J::.J::.J::.J::.J::.J::.J::.J::.J::.J::.J::.J::.J::.J::.J::.J::.J::.J::.J::.J::.J::.J::.J::.J::.J::.J::.J::.J::.J::.J::.J::.J::.J::[]),[gOb [lnR tx L k],⟨true,13,[Nc (.str (bs [])) .nils false],0,0,true⟩,⟨true,13,[Nc (.str (bs cw)) (.osl 5 x 0 (x+1)) df],0,0,false⟩,⟨true,5,[a0],0,0,true⟩,⟨false,5,[a0],0,0,true⟩,⟨false,5,done.map tv,x,x,true⟩,⟨false,1,[[w0]],0,0,true⟩,⟨false,1,ns.reverse.map wdR,x,x,true⟩]⟩
def Kn(R:SV)(m:Nat)(s:St):Prop:=
 vcI (Av Tryz.prog fun _ _=>False) a112_26 (bk 0 (sq (Av Tryz.prog fun _ _=>False) a112_40 (rt [.cell 6 true 13,.t 7] R))) m s
theorem Be8{df:Bool}{R:SV}{t u z:Tok}{r1 r2:List Tok}{a:LT}(hL:L.length<1000000)(Gp:tx.length<100000)(hi:i<1000)(hj:j<1000)(hd:L.drop k=t::u::r1)(ht:t.k=1)(ha:Kz tx [] r1=some (a,z::r2))
  (H:∀k',L.drop k'=r2->∃q,Kn R q (sB tx L k' i j cw df 0 (tv (a.tm i j)) (.str (bs u.w)) [a.tm i j] [u.w])):∃q,Kn R q (sA tx L k i j cw df):=by
 obtain⟨a1,a2,a3,a4,a5,a6,a7,a8,a9,a10⟩:=Dk hd;have Ih:L.length<1000000000000:=by omega
 have a6:=a6 Ih;have a10:=a10 Ih;have d1:=Ar hd;obtain⟨b1,b2,b3,b4,b5,b6,b7,b8,b9,b10⟩:=Dk d1;have d2:=Ar d1;obtain⟨k1,w,d3,c1,c2⟩:=f6 (i:=i) (j:=j) ha d2 hL Gp (by simp) hi hj;have c2:=c2 .nils (.inl ⟨rfl,rfl⟩);obtain⟨e1,e2,e3,e4,e5,e6,e7,e8,e9,e10⟩:=Dk d3;have e6:=e6 Ih;have Ci:=Af (a.tm i j);have hw2:IntKind.i64.wrap ((k:Int)+2)=((k+1+1:Nat):Int):=by rw[w64 (by unfold fit;omega)];omega
 have ek:((t.k:Int)==1)=true:=by rw[ht];rfl
 obtain⟨q,h2⟩:=H (k1+1) (Ar d3);refine⟨q+1,Ak ?_⟩;unfold Kn sB at h2;unfold sA Nc;unfold Nc at h2;unfold lnR at c1 h2 |-;simp only[go_sem,seval,a1,a2,a3,a4,a6,a8,a9,a10,b1,b2,b3,b4,forall_const,q_g,ek,hw2];refine Ac c1 ?_;simp only[go_sem,seval,q_g];refine Aa c2 ?_;simp only[go_sem,seval,Ci,e6,q_g];simp only[q_h,q_i,List.reverse_cons,List.reverse_nil,List.nil_append,wdR,Nat.zero_add] at h2;exact Cr (Au (by simp[An])) h2
theorem Bfa{df:Bool}{R:SV}{t u z:Tok}{r1 r2:List Tok}{a:LT}{x:Nat}{a0:List SV}{w0:SV}(hL:L.length<1000000)(Gp:tx.length<100000)(hi:i<1000)(hj:j<1000)(hD:done.length=x+1)(hN:ns.length=x+1)(hx:x<100000)(hd:L.drop k=t::u::r1)(ht:t.k=1)(ha:Kz tx ns r1=some (a,z::r2))
  (H:∀k',L.drop k'=r2->∃q,Kn R q (sB tx L k' i j cw df (x+1) a0 w0 (done++[a.tm i j]) (u.w::ns))):∃q,Kn R q (sB tx L k i j cw df x a0 w0 done ns):=by
 obtain⟨a1,a2,a3,a4,a5,a6,a7,a8,a9,a10⟩:=Dk hd;have Ih:L.length<1000000000000:=by omega
 have a6:=a6 Ih;have a10:=a10 Ih;have d1:=Ar hd;obtain⟨b1,b2,b3,b4,b5,b6,b7,b8,b9,b10⟩:=Dk d1;have d2:=Ar d1;obtain⟨k1,w,d3,c1,c2⟩:=f6 (i:=i) (j:=j) ha d2 hL Gp (by omega) hi hj;have c2:=c2 (nmV ns) (.inr rfl);obtain⟨e1,e2,e3,e4,e5,e6,e7,e8,e9,e10⟩:=Dk d3;have e6:=e6 Ih;have Ci:=Af (a.tm i j);have hw2:IntKind.i64.wrap ((k:Int)+2)=((k+1+1:Nat):Int):=by rw[w64 (by unfold fit;omega)];omega
 have ek:((t.k:Int)==1)=true:=by rw[ht];rfl
 obtain⟨q,h2⟩:=H (k1+1) (Ar d3);refine⟨q+1,Ak ?_⟩;unfold Kn sB at h2;unfold sB Nc;unfold Nc at h2;have hDl:(done.map tv).length=x+1:=by simp[hD]
 have Cn:(ns.reverse.map wdR).length=x+1:=by simp[hN]
 simp only[List.map_append,q_h,q_i,List.reverse_cons,wdR] at h2;unfold nmV at c2;unfold lnR at c1 h2 |-;generalize done.map tv=D at *
 generalize ns.reverse.map wdR=M at *
 have Ql:M.take (x+1)=M:=List.take_of_length_le (by omega);have g1:(x+1+1)*56<=140737488355328:=by omega
 have g2:(x+1+1)*16<=140737488355328:=by omega
 have g3:x+1+1<=140737488355328:=by omega
 have g4:x+1<=140737488355327:=by omega
 simp only[go_sem,seval,a1,a2,a3,a4,a6,a8,a9,a10,b1,b2,b3,b4,forall_const,q_g,ek,hw2];refine Ac c1 ?_;simp only[go_sem,seval,q_g,Ql];refine Aa c2 ?_;simp only[go_sem,seval,Ci,e6,q_g,hDl,Cn,g1,g2,g3,g4];exact Cr (Dq 8 (by simp[An]) (by simp) (by simp[Bb]) (by simp[gOb,Bb])) h2
theorem Be6{t:Tok}{r1 r2:List Tok}{ty:LT}{x:Nat}{a0:List SV}{w0:SV}(hL:L.length<1000000)(Gp:tx.length<100000)(hi:i<1000)(hj:j<1000)(hD:done.length=x+1)(hN:ns.length=x+1)(hx:x<100000)(hd:L.drop k=t::r1)(ht:t.k≠1)(ha:Kz tx ns r1=some (ty,r2)) :
  Kn (Lt cw done (ty.tm i j) zr false) 1 (sB tx L k i j cw false x a0 w0 done ns):=by
 obtain⟨a1,a2,a3,a4,a5,a6,a7,a8,a9,a10⟩:=Dk hd;have Ih:L.length<1000000000000:=by omega
 have a6:=a6 Ih;have a10:=a10 Ih;have d1:=Ar hd;obtain⟨k1,w,d3,c1,c2⟩:=f6 (i:=i) (j:=j) ha d1 hL Gp (by omega) hi hj;have c2:=c2 (nmV ns) (.inr rfl);have ek:((t.k:Int)==1)=false:=by rw[beq_eq_false_iff_ne];omega
 refine Ak ?_;unfold sB Nc Lt zr;have hDl:(done.map tv).length=x+1:=by simp[hD]
 have Cn:(ns.reverse.map wdR).length=x+1:=by simp[hN]
 unfold nmV at c2;unfold lnR at c1 |-;generalize done.map tv=D at *
 generalize ns.reverse.map wdR=M at *
 have Ql:M.take (x+1)=M:=List.take_of_length_le (by omega);have Zh:D.take (x+1)=D:=List.take_of_length_le (by omega);generalize ty.tm i j=tt at *
 cases tt with
 |mk tk ti tj tn tl=>
  rw[Am] at c2 |-;simp only[go_sem,seval,a1,a2,a3,a4,a6,a8,a9,a10,forall_const,q_g,ek];refine Ac c1 ?_;simp only[go_sem,seval,q_g,Ql];refine Aa c2 ?_;simp only[go_sem,seval,q_g,Ql,Zh,spl2]
theorem Be7{t:Tok}{r1 r2 r3:List Tok}{ty bd:LT}{x:Nat}{a0:List SV}{w0:SV}(hL:L.length<1000000)(Gp:tx.length<100000)(hi:i<1000)(hj:j<1000)(hD:done.length=x+1)(hN:ns.length=x+1)(hx:x<100000)(hd:L.drop k=t::r1)(ht:t.k≠1)(ha:Kz tx ns r1=some (ty,r2))(hb:Kz tx ns r2=some (bd,r3)) :
  Kn (Lt cw done (ty.tm i j) (tv (bd.tm i j)) true) 1 (sB tx L k i j cw true x a0 w0 done ns):=by
 obtain⟨a1,a2,a3,a4,a5,a6,a7,a8,a9,a10⟩:=Dk hd;have Ih:L.length<1000000000000:=by omega
 have a6:=a6 Ih;have a10:=a10 Ih;have d1:=Ar hd;obtain⟨k1,w,d3,c1,c2⟩:=f6 (i:=i) (j:=j) ha d1 hL Gp (by omega) hi hj;obtain⟨k2,w2,d4,c3,c4⟩:=f6 (i:=i) (j:=j) hb d3 hL Gp (by omega) hi hj;have c2:=c2 (nmV ns) (.inr rfl);have c4:=c4 (nmV ns) (.inr rfl);have ek:((t.k:Int)==1)=false:=by rw[beq_eq_false_iff_ne];omega
 refine Ak ?_;unfold sB Nc Lt;have hDl:(done.map tv).length=x+1:=by simp[hD]
 have Cn:(ns.reverse.map wdR).length=x+1:=by simp[hN]
 unfold nmV at c2 c4;unfold lnR at c1 c3 |-;generalize done.map tv=D at *
 generalize ns.reverse.map wdR=M at *
 have Ql:M.take (x+1)=M:=List.take_of_length_le (by omega);have Zh:D.take (x+1)=D:=List.take_of_length_le (by omega);generalize ty.tm i j=tt at *
 generalize bd.tm i j=bt at *
 cases tt with
 |mk tk ti tj tn tl=>
  cases bt with
  |mk uk ui uj un ul=>
   rw[Am] at c2 c4 |-;rw[Am];simp only[go_sem,seval,a1,a2,a3,a4,a6,a8,a9,a10,forall_const,q_g,ek];refine Ac c1 ?_;simp only[go_sem,seval,q_g,Ql];refine Aa c2 ?_;simp only[go_sem,seval,q_g,Ql,Zh,spl2];refine Ac c3 ?_;simp only[go_sem,seval,q_g,Ql,Zh,spl2];refine Aa c4 ?_;simp only[go_sem,seval,q_g,Ql,Zh,spl2,spl7,List.cons_append,List.nil_append]
theorem Be9{df:Bool}{R:SV}{nsE:List By}{psE:List LT}{rE:List Tok}{a0:List SV}{w0:SV}(hL:L.length<1000000)(Gp:tx.length<100000)(hi:i<1000)(hj:j<1000)
  (Xx:∀k' t x,psE.length=x+1->nsE.length=x+1->x<100000->L.drop k'=t::rE->t.k≠1->Kn R 1 (sB tx L k' i j cw df x a0 w0 (psE.map (LT.tm i j)) nsE)) :
  ∀(g:Nat) (ns:List By) (ps:List LT) (ts:List Tok) (k x:Nat),Wx tx g ns ps ts=some (nsE,psE,rE)->ps.length=x+1->ns.length=x+1->x+g<100000->L.drop k=ts->∃q,Kn R q (sB tx L k i j cw df x a0 w0 (ps.map (LT.tm i j)) ns):=by
 intro g
 induction g with
 |zero=>intro ns ps ts k x h;cases h
 |succ g ih=>
  intro ns ps ts k x h hp hn hx hd
  match ts,h with
  |[],h=>cases h
  |t::r1,h=>
   unfold Wx at h;dsimp only at h;split at h
   ·rename_i ht
    match r1,h with
    |[],h=>cases h
    |u::r2,h=>
     dsimp only at h;cases ha:Kz tx ns r2 with
     |none=>rw[ha] at h;cases h
     |some p=>
      obtain⟨a,r3⟩:=p;rw[ha] at h
      match r3,h,ha with
      |[],h,_=>cases h
      |z::r4,h,ha=>
       dsimp only at h;refine Bfa hL Gp hi hj (by simp[hp]) hn (by omega) hd ht ha (fun k' hk=>?_);have:=ih (u.w::ns) (ps++[a]) r4 k' (x+1) h (by simp[hp]) (by simp[hn]) (by omega) hk
       rwa [List.map_append,q_h,q_i] at this
   ·rename_i ht;cases h;exact⟨1,Xx k t x hp hn (by omega) hd ht⟩
end
theorem Ah2{n i j:Nat}{tx:By}{L:List Tok}{a b c d:Tok}{r0:List Tok}{R:SV}(hn:libL[n]?=some tx)(Hk:Lx tx 0 L)(hL:L=a::b::c::d::r0)(Gp:tx.length<100000)(hi:i<1000)(hj:j<1000)(hNR:NoG R)(hq:∃q,Kn R q (sA tx L 4 i j c.w (b.w==[100,101,102]))) :
  Con 112 [.int .i64 ((n+1:Nat):Int),.int .i64 i,.int .i64 j] R:=by
 have Ah:libL.length=21:=rfl;have Bt:∀(m:Nat) v,libL[m]?=some v->(libL.map wdR)[m]?.getD []=[.str (bs v)]:=fun m v hv=>by rw[List.getElem?_map,hv];rfl
 have hnl:=(List.getElem?_eq_some_iff.1 hn).1;have cl:=Ac1;generalize libL=lb at *
 have hLl:=Zu Hk;have cx:=Ahs (by omega) Hk (by rw[hL];simp) (by omega);have d0:L.drop 0=a::b::c::d::r0:=by rw[List.drop_zero,hL]
 have d1:=Ar d0;have d2:=Ar d1;obtain⟨b1,b2,b3,b4,b5,b6,b7,b8,b9,b10⟩:=Dk d1;obtain⟨e1,e2,e3,e4,e5,e6,e7,e8,e9,e10⟩:=Dk d2;have b10:=b10 (by omega);have Ee:∀x∈[SV.int .i64 ((n+1:Nat):Int),.int .i64 i,.int .i64 j],NoG x:=fun x hx=>by
  simp only[List.mem_cons,List.not_mem_nil,or_false] at hx;rcases hx with rfl|rfl|rfl<;>exact .int _ _
 refine s6 mixed Tryz.func112 tr112 Ee hNR ?_;have i1:¬((n+1:Nat):Int)<1:=by omega
 have i2:¬((n+1:Nat):Int) > 21:=by omega
 have i3:¬(i:Int)<0:=by omega
 have i4:¬(j:Int)<0:=by omega
 have i5:¬(i:Int) >= 1000:=by omega
 have i6:¬(j:Int) >= 1000:=by omega
 have i7:IntKind.i64.wrap (((n+1:Nat):Int)-1)=(n:Int):=by rw[w64 (by unfold fit;omega)];omega
 have i8:(0:Int)<=(n:Int):=by omega
 have i9:(n:Int)<21:=by omega
 have i10:n<21:=by omega
 have i11:(21:Nat)<=140737488355328:=by decide
 have b2':(1:Int)<(L.length:Int):=by omega
 have e2':(2:Int)<(L.length:Int):=by omega
 have b1':1<L.length:=by omega
 have e1':2<L.length:=by omega
 have b4':(L.map Fd)[1]?.getD []=[.int .i64 b.k,.str (bs b.w),.int .i64 b.p]:=b4;have e4':(L.map Fd)[2]?.getD []=[.int .i64 c.k,.str (bs c.w),.int .i64 c.p]:=e4;simp only[go_sem,seval,i3,i4,decide_eq_false i5,decide_eq_false i6,decide_eq_false i1,decide_eq_false i2];refine Aa cl ?_;simp only[go_sem,seval,q_g,Ah,i1,i2,i3,i4,decide_eq_false i5,decide_eq_false i6,decide_eq_false i1,decide_eq_false i2,i7,i8,i9,i10,i11,forall_const,Bt n tx hn];refine Aa cx ?_;simp only[go_sem,seval,q_g,b1',b2',b4',b10,e1',e2',e4',forall_const];obtain⟨q,h2⟩:=hq;unfold Kn sA Nc lnR at h2;exact Cd q (Cr (Au (by simp[An])) h2)
theorem Awa{n i j:Nat}{tx:By}{ls:LS}(hn:libL[n]?=some tx)(Bc:Aa4 tx=some ls)(Kf:ls.ps≠[])(Gp:tx.length<10000)(hi:i<1000)(hj:j<1000) :
  Con 112 [.int .i64 ((n+1:Nat):Int),.int .i64 i,.int .i64 j] (Lt ls.nm (ls.ps.map (LT.tm i j)) (ls.ty.tm i j) (Vj ls i j) ls.df):=by
 unfold Aa4 at Bc;cases Hk:Hq (tx.length+1) 0 tx with
 |none=>rw[Hk] at Bc;cases Bc
 |some L=>
  rw[Hk] at Bc;have hx:=Afb Hk;have Dc:=Zu hx
  match L,Bc,hx,Dc with
  |[],Bc,_,_=>cases Bc
  |[_],Bc,_,_=>cases Bc
  |[_,_],Bc,_,_=>cases Bc
  |[_,_,_],Bc,_,_=>cases Bc
  |a::b::c::d::r,Bc,hx,Dc=>
   dsimp only at Bc;have d4:(a::b::c::d::r).drop 4=r:=rfl;simp only[List.length_cons] at Dc;have Kb:(a::b::c::d::r).length<1000000:=by simp only[List.length_cons];omega
   cases hp:Wx tx r.length [] [] r with
   |none=>rw[hp] at Bc;cases Bc
   |some p=>
    obtain⟨nsE,psE,r1⟩:=p;rw[hp] at Bc;dsimp only at Bc;cases Gj:Kz tx nsE r1 with
    |none=>rw[Gj] at Bc;cases Bc
    |some p2=>
     obtain⟨ty,r2⟩:=p2;rw[Gj] at Bc;dsimp only at Bc;have key:∀(R:SV) (df:Bool),psE≠[]->(∀a0 w0 k' t x,psE.length=x+1->nsE.length=x+1->x<100000->(a::b::c::d::r).drop k'=t::r1->t.k≠1->Kn R 1 (sB tx (a::b::c::d::r) k' i j c.w df x a0 w0 (psE.map (LT.tm i j)) nsE))->∃q,Kn R q (sA tx (a::b::c::d::r) 4 i j c.w df):=fun R df As Xx=>by
      match r,hp,d4,Kb with
      |[],hp,_,_=>cases hp
      |t::s1,hp,d4,Kb=>
       rw[List.length_cons] at hp;unfold Wx at hp;dsimp only at hp;split at hp
       ·rename_i ht
        match s1,hp,d4,Kb with
        |[],hp,_,_=>cases hp
        |u::s2,hp,d4,Kb=>
         dsimp only at hp;cases ha:Kz tx [] s2 with
         |none=>rw[ha] at hp;cases hp
         |some p=>
          obtain⟨a1,s3⟩:=p;rw[ha] at hp
          match s3,hp,ha with
          |[],hp,_=>cases hp
          |z::s4,hp,ha=>
           dsimp only at hp;refine Be8 Kb (by omega) hi hj d4 ht ha (fun k' hk=>?_);have:=Be9 (df:=df) (cw:=c.w) (a0:=tv (a1.tm i j)) (w0:=.str (bs u.w)) Kb (by omega) hi hj (Xx _ _) (s2.length+1) [u.w] [a1] s4 k' 0 hp rfl rfl (by simp only[List.length_cons] at Dc;omega) hk;exact this
       ·cases hp;exact absurd rfl As
     split at Bc
     ·rename_i En;cases Oo:Kz tx nsE r2 with
      |none=>rw[Oo] at Bc;cases Bc
      |some p3=>
       obtain⟨bd,r3⟩:=p3;rw[Oo] at Bc;cases Bc;refine Ah2 hn hx rfl (by omega) hi hj (Abc (Un _)) ?_;rw[En];exact key _ true Kf (fun a0 w0 k' t x h1 h2 h3 h4 h5=>Be7 Kb (by omega) hi hj (by simpa using h1) h2 h3 h4 h5 Gj Oo)
     ·rename_i En;have En:(b.w==[100,101,102])=false:=by simpa using En
      cases Bc;refine Contract.weaken (Ah2 hn hx rfl (by omega) hi hj (Abc (bd:=zr) Amz) ?_) Alp;rw[En];exact key _ false Kf (fun a0 w0 k' t x h1 h2 h3 h4 h5=>Be6 Kb (by omega) hi hj (by simpa using h1) h2 h3 h4 h5 Gj)
theorem A7m:libL.map Aa4=libL.map Qr:=by kernel_rfl
theorem A7l:libL.all (fun tx=>decide (tx.length<10000) && (match Qr tx with|some ls=>!ls.ps.isEmpty|none=>false))=true:=by kernel_rfl
def Am0:SV:=.tup [.agg true [.str (bs []),.nils,.int .i64 0,.int .i64 0,.int .i64 0,.int .i64 0,.nils,.int .i64 0,.int .i64 0,.int .i64 0,.int .i64 0,.nils,.bool false],.bool false]
theorem Awb{n i j:Int}(h:¬((1<=n/\n<=21)/\(0<=i/\i<1000)/\(0<=j/\j<1000))):Con 112 [.int .i64 n,.int .i64 i,.int .i64 j] Am0:=by
 refine Al mixed Tryz.func112 tr112 ?_;unfold Am0;simp only[go_sem,seval]
 by_cases h1:n<1
 ·simp only[go_sem,seval,decide_eq_true h1]
 by_cases h2:n > 21
 ·simp only[go_sem,seval,forall_const,decide_eq_false h1,decide_eq_true h2]
 by_cases h3:i<0
 ·simp only[go_sem,seval,forall_const,decide_eq_false h1,decide_eq_false h2,decide_eq_true h3]
 by_cases h4:i >= 1000
 ·simp only[go_sem,seval,forall_const,decide_eq_false h1,decide_eq_false h2,decide_eq_false h3,decide_eq_true h4]
 by_cases h5:j<0
 ·simp only[go_sem,seval,forall_const,decide_eq_false h1,decide_eq_false h2,decide_eq_false h3,decide_eq_false h4,decide_eq_true h5]
 by_cases h6:j >= 1000
 ·simp only[go_sem,seval,forall_const,decide_eq_false h1,decide_eq_false h2,decide_eq_false h3,decide_eq_false h4,decide_eq_false h5,decide_eq_true h6]
 ·exact absurd ⟨⟨by omega,by omega⟩,⟨by omega,by omega⟩,by omega,by omega⟩ h
theorem Ae9:Lib symT:=by
 refine⟨fun n i j hn hi hj=>?_,fun n i j s hs hd=>?_⟩
 ·by_cases hr:(1<=n/\n<=21)/\(0<=i/\i<1000)/\(0<=j/\j<1000)
  ·obtain⟨tx,ls,h1,h2,h3,h4,h5⟩:=Af2 hr;have h6:Aa4 tx=some ls:=by
    have e:=congrArg (fun l=>l[(n-1).toNat]?) A7m;simp only[List.getElem?_map,h1,Option.map_some,q_b] at e;rw[e];exact h3
   have h7:=List.all_eq_true.1 A7l _ (List.mem_of_getElem? h1);rw[h3,Bool.and_eq_true] at h7;have h:=Awa (i:=i.toNat) (j:=j.toNat) h1 h6 (by
    intro e;have h8:=h7.2;simp[e] at h8) (of_decide_eq_true h7.1) (by omega) (by omega)
   rw[show (((n-1).toNat+1:Nat):Int)=n by omega,show ((i.toNat:Nat):Int)=i by omega,show ((j.toNat:Nat):Int)=j by omega] at h;have e:Vj ls i.toNat j.toNat=tv (ls.sy i.toNat j.toNat).bd:=by
    unfold Vj LS.sy;cases ls.bd<;>rfl
   rw[e] at h;exact⟨fun s hs=>by rw[h5] at hs;cases hs;exact h,fun hs=>by rw[h5] at hs;cases hs⟩
  ·refine⟨fun s hs=>?_,fun _=>Awb hr⟩;unfold symT at hs;rw[if_neg hr] at hs;cases hs
 ·have hb:symT.B n i j=some s.bd:=by
   unfold SyT.B;rw[hs,Option.bind_some,hd];rfl
  exact⟨(Ab0 hb).1.sf,(Ab0 hb).2⟩
theorem Xk:Fs symT.B:=fun n i j b hb=>(Ab0 hb).1.sf
end Go.Proofs.YtdpigpopcbjkmaaGreatDoor.Abs
namespace Go.Proofs.YtdpigpopcbjkmaaGreatDoor.Flt
def rung(x:Nat):Nat:=x % 9223372036854775808
def isNeg(x:Nat):Bool:=x / 9223372036854775808 % 2==1
def skey(x:Nat):Int:=if isNeg x then -(rung x:Int) else (rung x:Int)
def nanB(x:Nat):Bool:=decide (9218868437227405312<rung x)
def ord(x y:Nat):Option Ordering:=FloatKind.f64.format.order x y
def V(r:Nat):Nat:=if r<4503599627370496 then r else (4503599627370496+r % 4503599627370496)*2 ^ (r / 4503599627370496-1)
theorem Agm(r:Nat):V r<V (r+1):=by
 unfold V
 by_cases h:r+1<4503599627370496
 ·rw[if_pos (by omega),if_pos h];omega
 ·by_cases h2:r<4503599627370496
  ·rw[if_pos h2,if_neg h];have:r=4503599627370495:=by omega
   subst this;decide
  ·rw[if_neg h2,if_neg h]
   by_cases h3:r % 4503599627370496=4503599627370495
   ·have e1:(r+1) % 4503599627370496=0:=by omega
    have e2:(r+1) / 4503599627370496-1=(r / 4503599627370496-1)+1:=by omega
    rw[e1,e2,h3,Nat.pow_succ];have:0<2 ^ (r / 4503599627370496-1):=Nat.two_pow_pos _;omega
   ·have e1:(r+1) % 4503599627370496=r % 4503599627370496+1:=by omega
    have e2:(r+1) / 4503599627370496=r / 4503599627370496:=by omega
    rw[e1,e2];exact Nat.mul_lt_mul_of_pos_right (by omega) (Nat.two_pow_pos _)
theorem V_lt{r s:Nat}(h:r<s):V r<V s:=by
 induction s with
 |zero=>omega
 |succ s ih=>
  rcases Nat.lt_or_ge r s with h1|h1
  ·exact Nat.lt_trans (ih h1) (Agm s)
  ·have:r=s:=by omega
   subst this;exact Agm r
theorem At3(a b:Int)(r s:Nat)(x y:Int)
  (hx:(a=V r/\x=r)\/(a=-(V r:Int)/\x=-(r:Int))) (hy:(b=V s/\y=s)\/(b=-(V s:Int)/\y=-(s:Int))):compare a b=compare x y:=by
 have V0:V 0=0:=by decide
 have pos:∀t:Nat,0<t->0<V t:=fun t ht=>by have:=V_lt ht;omega
 have hr:=pos r;have hs:=pos s;have Ox:r<s->V r<V s:=V_lt;have hsr:s<r->V s<V r:=V_lt;have e0:r=0->V r=0:=by rintro rfl;exact V0
 have f0:s=0->V s=0:=by rintro rfl;exact V0
 have ee:r=s->V r=V s:=by rintro rfl;rfl
 generalize V r=p at *
 generalize V s=q at *
 have key:(a<b↔x<y)/\(a=b↔x=y):=by
  rcases hx with⟨h1,h2⟩|⟨h1,h2⟩<;>rcases hy with⟨h3,h4⟩|⟨h3,h4⟩<;>constructor<;>omega
 simp only[compare,compareOfLessAndEq,key.1,key.2]
def E(r:Nat):Nat:=if r<4503599627370496 then 0 else r / 4503599627370496-1
def M(r:Nat):Nat:=if r<4503599627370496 then r else 4503599627370496+r % 4503599627370496
theorem V_eq(r:Nat):V r=M r*2 ^ E r:=by
 unfold V M E;split<;>simp
theorem f9(x:Nat)(h:rung x<9218868437227405312):FloatKind.f64.format.read x=.number (isNeg x) (M (rung x)) (-1074+(E (rung x):Int)):=by
 show Ieee.Format.read Ieee.double x=_;unfold Ieee.Format.read;have e1:Ieee.double.signWeight=9223372036854775808:=by decide
 have e2:Ieee.double.binade=4503599627370496:=by decide
 have e3:Ieee.double.infRung=9218868437227405312:=by decide
 have e4:Ieee.double.leastPlace=-1074:=by decide
 simp only[e1,e2,e3,e4];unfold rung at h;unfold M E rung isNeg
 by_cases h1:x % 9223372036854775808<4503599627370496
 ·simp[h1]
 ·simp[h1,h]
theorem Abn(x:Nat)(h:rung x=9218868437227405312):FloatKind.f64.format.read x=.infinity (isNeg x):=by
 show Ieee.Format.read Ieee.double x=_;unfold Ieee.Format.read;have e1:Ieee.double.signWeight=9223372036854775808:=by decide
 have e2:Ieee.double.binade=4503599627370496:=by decide
 have e3:Ieee.double.infRung=9218868437227405312:=by decide
 simp only[e1,e2,e3];unfold rung at h;rw[h];simp[isNeg]
theorem An3(x:Nat)(h:9218868437227405312<rung x):FloatKind.f64.format.read x=.nan (isNeg x) (rung x-9218868437227405312):=by
 show Ieee.Format.read Ieee.double x=_;unfold Ieee.Format.read;have e1:Ieee.double.signWeight=9223372036854775808:=by decide
 have e2:Ieee.double.binade=4503599627370496:=by decide
 have e3:Ieee.double.infRung=9218868437227405312:=by decide
 simp only[e1,e2,e3];unfold rung at h |-;rw[if_neg (by omega),if_neg (by omega),if_neg (by omega)];rfl
theorem cmp_lt{a b:Int}(h:a<b):compare a b=.lt:=by simp[compare,compareOfLessAndEq,h]
theorem cmp_gt{a b:Int}(h:b<a):compare a b=.gt:=by
 have h1:¬a<b:=by omega
 have h2:¬a=b:=by omega
 simp[compare,compareOfLessAndEq,h1,h2]
theorem cmp_eq{a b:Int}(h:a=b):compare a b=.eq:=by simp[compare,compareOfLessAndEq,h]
theorem At4(a b:Int)(k:Nat)(hk:0<k):compare (a*k) (b*k)=compare a b:=by
 have hk':(0:Int)<k:=by omega
 have h1:a*k<b*k↔a<b:=⟨fun h=>Int.lt_of_mul_lt_mul_right h (by omega),fun h=>Int.mul_lt_mul_of_pos_right h hk'⟩
 have h2:a*k=b*k↔a=b:=⟨fun h=>Int.eq_of_mul_eq_mul_right (by omega) h,fun h=>by rw[h]⟩
 simp only[compare,compareOfLessAndEq,h1,h2]
theorem Aof(s:Bool)(m u k:Nat):Ieee.signed s m u*((2 ^ k:Nat):Int)=Ieee.signed s m (u+k):=by
 unfold Ieee.signed;have:((m <<< u:Nat):Int)*((2 ^ k:Nat):Int)=((m <<< (u+k):Nat):Int):=by
  rw[Nat.shiftLeft_eq,Nat.shiftLeft_eq,Nat.pow_add,<-Nat.mul_assoc];exact (Int.natCast_mul _ _).symm
 cases s<;>simp only[Bool.false_eq_true,if_false,if_true]
 ·exact this
 ·rw[Int.neg_mul,this]
theorem Aoe(x:Nat):Ieee.signed (isNeg x) (M (rung x)) (E (rung x))=if isNeg x then -(V (rung x):Int) else (V (rung x):Int):=by
 unfold Ieee.signed;rw[Nat.shiftLeft_eq,<-V_eq]
theorem ord_skey(x y:Nat)(hx:nanB x=false)(hy:nanB y=false):ord x y=some (compare (skey x) (skey y)):=by
 have Ca:rung x<=9218868437227405312:=by simpa [nanB] using hx
 have hy':rung y<=9218868437227405312:=by simpa [nanB] using hy
 unfold ord Ieee.Format.order;rcases Nat.lt_or_ge (rung x) 9218868437227405312 with h1|h1<;>rcases Nat.lt_or_ge (rung y) 9218868437227405312 with h2|h2
 ·rw[f9 x h1,f9 y h2];simp only[Ieee.Datum.order];congr 1;have hb:∀e f:Nat,(-1074+(e:Int)-min (-1074+(e:Int)) (-1074+(f:Int))).toNat+min e f=e:=by intro e f;omega
  have El:∀e f:Nat,(-1074+(f:Int)-min (-1074+(e:Int)) (-1074+(f:Int))).toNat+min e f=f:=by intro e f;omega
  rw[<-At4 _ _ (2 ^ min (E (rung x)) (E (rung y))) (Nat.two_pow_pos _),Aof,Aof,hb,El,Aoe,Aoe];refine At3 _ _ (rung x) (rung y) _ _ ?_ ?_
  ·unfold skey;cases isNeg x<;>simp
  ·unfold skey;cases isNeg y<;>simp
 ·have It:rung y=9218868437227405312:=by omega
  rw[f9 x h1,Abn y It];simp only[Ieee.Datum.order];congr 1;unfold skey;rw[It];cases isNeg y<;>cases isNeg x<;>first|exact (cmp_lt (by simp;omega)).symm|exact (cmp_gt (by simp;omega)).symm
 ·have Nh:rung x=9218868437227405312:=by omega
  rw[f9 y h2,Abn x Nh];simp only[Ieee.Datum.order];congr 1;unfold skey;rw[Nh];cases isNeg x<;>cases isNeg y<;>first|exact (cmp_lt (by simp;omega)).symm|exact (cmp_gt (by simp;omega)).symm
 ·have Nh:rung x=9218868437227405312:=by omega
  have It:rung y=9218868437227405312:=by omega
  rw[Abn x Nh,Abn y It];simp only[Ieee.Datum.order];congr 1;unfold skey;rw[Nh,It];cases isNeg x<;>cases isNeg y<;>decide
theorem ord_nan_left(x y:Nat)(hx:nanB x=true):ord x y=none:=by
 have Ca:9218868437227405312<rung x:=by simpa [nanB] using hx
 unfold ord Ieee.Format.order;rw[An3 x Ca];rfl
theorem ord_nan_right(x y:Nat)(hy:nanB y=true):ord x y=none:=by
 have hy':9218868437227405312<rung y:=by simpa [nanB] using hy
 unfold ord Ieee.Format.order;rw[An3 y hy'];cases FloatKind.f64.format.read x<;>rfl
end Go.Proofs.YtdpigpopcbjkmaaGreatDoor.Flt
namespace Go.Proofs.YtdpigpopcbjkmaaGreatDoor.Flt
open Go Go.RowKit
def rg(m:Nat):Nat:=((m.log2:Int)-52+1074).toNat*4503599627370496+Ieee.Toward.even.cut false (m <<< (0-((m.log2:Int)-52)).toNat) ((m.log2:Int)-52-0).toNat
def R(m:Nat):Nat:=if m=0 then 0 else min (rg m) 9218868437227405312
theorem Awr(s t:Bool)(n d:Nat):Ieee.Toward.even.cut s n d=Ieee.Toward.even.cut t n d:=rfl
theorem A8r(neg:Bool)(m:Nat):Ieee.double.nearest neg m 0=Ieee.double.word neg (R m):=by
 unfold Ieee.Format.nearest R
 by_cases h:m=0
 ·rw[if_pos h,if_pos h]
 ·rw[if_neg h,if_neg h];have e2:Ieee.double.binade=4503599627370496:=by decide
  have e3:Ieee.double.infRung=9218868437227405312:=by decide
  have e4:Ieee.double.leastPlace=-1074:=by decide
  have e5:(Ieee.double.fractionBits:Int)=52:=by decide
  simp only[e2,e3,e4,e5];have el:max ((0:Int)+(m.log2:Int)-52) (-1074)=(m.log2:Int)-52:=by omega
  rw[el];unfold rg;rw[show (m.log2:Int)-52 - -1074=(m.log2:Int)-52+1074 by omega,Awr neg false]
theorem Awu(n:Nat):Ieee.Toward.even.cut false n 0=n:=by
 unfold Ieee.Toward.cut;simp[Nat.mod_one]
theorem R_le(m:Nat):R m<=9218868437227405312:=by
 unfold R;split<;>omega
theorem Agi(neg:Bool){r:Nat}(h:r<=9218868437227405312):rung (Ieee.double.word neg r)=r/\isNeg (Ieee.double.word neg r)=neg:=by
 have e1:Ieee.double.signWeight=9223372036854775808:=by decide
 unfold Ieee.Format.word rung isNeg;rw[e1];cases neg
 ·simp only[Bool.false_eq_true,if_false];refine⟨by omega,?_⟩;have:r / 9223372036854775808=0:=by omega
  rw[this];rfl
 ·simp only[if_true];refine⟨by omega,?_⟩;have:(9223372036854775808+r) / 9223372036854775808=1:=by omega
  rw[this];rfl
theorem Bip(neg:Bool){r:Nat}(h:r<=9218868437227405312):nanB (Ieee.double.word neg r)=false:=by
 unfold nanB;rw[(Agi neg h).1];simpa using h
theorem Am7(n:Int):floatOfInt .f64 n=Ieee.double.word (n<0) (R n.natAbs):=A8r _ _
theorem ofInt_nan(n:Int):nanB (floatOfInt .f64 n)=false:=by rw[Am7];exact Bip _ (R_le _)
theorem ofInt_key(n:Int):skey (floatOfInt .f64 n)=if n<0 then -(R n.natAbs:Int) else (R n.natAbs:Int):=by
 rw[Am7];unfold skey;rw[(Agi _ (R_le _)).1,(Agi _ (R_le _)).2]
 by_cases h:n<0<;>simp[h]
end Go.Proofs.YtdpigpopcbjkmaaGreatDoor.Flt
namespace Go.Proofs.YtdpigpopcbjkmaaGreatDoor.Flt
def cc:Nat:=1074
def U:Nat:=2 ^ cc
theorem U_eq{x:Nat}(h:x=1074):2 ^ x=U:=by
 have:x=cc:=h;rw[this,U]
theorem U_pos:0<U:=Nat.two_pow_pos cc
theorem Aws(s:Bool)(n d:Nat):Ieee.Toward.zero.cut s n d=n / 2 ^ d:=by
 unfold Ieee.Toward.cut;simp only[Bool.toNat_false,Nat.add_zero,Nat.one_shiftLeft];rcases Nat.le_total d (n.log2+2) with h|h
 ·rw[Nat.min_eq_left h]
 ·rw[Nat.min_eq_right h];have h1:n<2 ^ (n.log2+2):=by
   rcases Nat.eq_zero_or_pos n with rfl|hn
   ·exact Nat.two_pow_pos _
   ·have:=Nat.lt_log2_self (n:=n);rw[Nat.pow_succ];omega
  have h2:n<2 ^ d:=Nat.lt_of_lt_of_le h1 (Nat.pow_le_pow_right (by decide) h);rw[Nat.div_eq_of_lt h1,Nat.div_eq_of_lt h2]
theorem toInt_pos(b:Nat)(h:rung b<9218868437227405312)(hn:isNeg b=false):(FloatKind.f64.decode b).toInt .zero=some ((V (rung b) / U:Nat):Int):=by
 rw[show FloatKind.f64.decode b=_ from f9 b h];unfold Ieee.Datum.toInt Ieee.Datum.integral;simp only[hn,Aws];unfold Ieee.signed;simp only[Bool.false_eq_true,if_false,Nat.shiftLeft_zero];congr 2;rw[V_eq,Nat.shiftLeft_eq];generalize M (rung b)=m;generalize E (rung b)=e;rcases Nat.le_total 1074 e with h1|h1
 ·rw[show (-(-1074+(e:Int))).toNat=0 by omega,show (-1074+(e:Int)).toNat=e-1074 by omega,Nat.pow_zero,Nat.div_one];have:2 ^ e=2 ^ (e-1074)*U:=by rw[<-U_eq (x:=cc) rfl,<-Nat.pow_add];congr 1;have:cc=1074:=rfl;omega
  rw[this,<-Nat.mul_assoc,Nat.mul_div_cancel _ U_pos]
 ·rw[show (-(-1074+(e:Int))).toNat=1074-e by omega,show (-1074+(e:Int)).toNat=0 by omega,Nat.pow_zero,Nat.mul_one];have:U=2 ^ (1074-e)*2 ^ e:=by rw[<-Nat.pow_add,U_eq (by omega)]
  rw[this,Nat.mul_div_mul_right _ _ (Nat.two_pow_pos e)]
theorem V_R(n:Nat)(h0:n≠0)(hn:n<9007199254740992):R n<9218868437227405312/\V (R n)=n*U:=by
 have hl:n.log2<=52:=by
  have:=(Nat.log2_lt h0 (k:=53)).2 (by omega);omega
 have h1:2 ^ n.log2<=n:=Nat.log2_self_le h0;have h2:n<2 ^ (n.log2+1):=Nat.lt_log2_self;have e52:(2:Nat) ^ 52=2 ^ n.log2*2 ^ (52-n.log2):=by rw[<-Nat.pow_add];congr 1;omega
 have hp:=Nat.two_pow_pos (52-n.log2);have lo:4503599627370496<=n*2 ^ (52-n.log2):=by
  have:=Nat.mul_le_mul_right (2 ^ (52-n.log2)) h1;rw[<-e52] at this;exact this
 have hi:n*2 ^ (52-n.log2)<9007199254740992:=by
  have:=Nat.mul_lt_mul_of_pos_right h2 hp;rw[Nat.pow_succ,Nat.mul_right_comm,<-e52] at this;exact this
 have hR:rg n=(n.log2+1022)*4503599627370496+n*2 ^ (52-n.log2):=by
  unfold rg;rw[show ((n.log2:Int)-52-0).toNat=0 by omega,Awu,Nat.shiftLeft_eq,show (0-((n.log2:Int)-52)).toNat=52-n.log2 by omega,show ((n.log2:Int)-52+1074).toNat=n.log2+1022 by omega]
 have hRR:R n=rg n:=by
  unfold R;rw[if_neg h0,hR];omega
 rw[hRR,hR];refine⟨by omega,?_⟩;have hd:((n.log2+1022)*4503599627370496+n*2 ^ (52-n.log2)) / 4503599627370496=n.log2+1023:=by omega
 have hm:((n.log2+1022)*4503599627370496+n*2 ^ (52-n.log2)) % 4503599627370496=n*2 ^ (52-n.log2)-4503599627370496:=by omega
 unfold V;rw[if_neg (by omega),hd,hm,show 4503599627370496+(n*2 ^ (52-n.log2)-4503599627370496)=n*2 ^ (52-n.log2) by omega,Nat.mul_assoc,<-Nat.pow_add,U_eq (by omega)]
theorem V_le{r s:Nat}(h:r<=s):V r<=V s:=by
 rcases Nat.lt_or_ge r s with h1|h1
 ·exact Nat.le_of_lt (V_lt h1)
 ·rw[show r=s by omega];exact Nat.le_refl _
theorem le_cut{b n:Nat}(hb:nanB b=false)(h0:n≠0)(hn:n<9007199254740992)(h:skey (floatOfInt .f64 n)<=skey b):isNeg b=false/\n<=V (rung b) / U:=by
 obtain⟨h1,h2⟩:=V_R n h0 hn;have hk:=ofInt_key (n:Int);rw[if_neg (by omega),Int.natAbs_natCast] at hk;rw[hk] at h;have Ch:0<R n:=by
  rcases Nat.eq_zero_or_pos (R n) with e|e
  ·rw[e] at h2;have:0<n*U:=Nat.mul_pos (by omega) U_pos;have h3:V 0=0:=by decide
   omega
  ·exact e
 unfold skey at h;cases Yz:isNeg b with
 |true=>rw[Yz,if_pos rfl] at h;omega
 |false=>
  rw[Yz,if_neg (by decide)] at h;refine⟨rfl,?_⟩;have hle:V (R n)<=V (rung b):=V_le (by omega);rw[h2] at hle;exact (Nat.le_div_iff_mul_le U_pos).2 hle
theorem cut_lt{b n:Nat}(h0:n≠0)(hn:n<9007199254740992)(hp:isNeg b=false)(h:skey b<skey (floatOfInt .f64 n)):rung b<9218868437227405312/\V (rung b) / U<n:=by
 obtain⟨h1,h2⟩:=V_R n h0 hn;have hk:=ofInt_key (n:Int);rw[if_neg (by omega),Int.natAbs_natCast] at hk;rw[hk] at h;unfold skey at h;rw[hp,if_neg (by decide)] at h;have Ab:=V_lt (show rung b<R n by omega);rw[h2] at Ab;exact⟨by omega,(Nat.div_lt_iff_lt_mul U_pos).2 Ab⟩
end Go.Proofs.YtdpigpopcbjkmaaGreatDoor.Flt
namespace Go.Proofs.YtdpigpopcbjkmaaGreatDoor.Nrm
open Go Go.RowKit
def within (n:Int)(m:Nat):Bool:=FloatKind.f64.format.order (floatOfInt .f64 n) m==some Ordering.lt || FloatKind.f64.format.order (floatOfInt .f64 n) m==some Ordering.eq
theorem Awl(b n:Nat)(h:(FloatKind.f64.decode b).toInt .zero=some (n:Int))(hn:n<9223372036854775808)(w:World):(convert 25 3 (.float .f64 b)).run Tryz.prog w=.ok (.int .i64 n) w:=by
 have hk:(convert 25 3 (.float .f64 b)).run Tryz.prog w=(Conv.floatToInt .f64 b .i64).run Tryz.prog w:=by kernel_rfl
 rw[hk];unfold Conv.floatToInt;rw[h];have h1:IntKind.i64.min<=(n:Int)/\(n:Int)<=IntKind.i64.max:=by
  have e1:IntKind.i64.min=-9223372036854775808:=by decide
  have e2:IntKind.i64.max=9223372036854775807:=by decide
  rw[e1,e2];omega
 simp only[h1,and_self,if_true];rfl
def big:Nat:=4741671816366391296
theorem A7j(b n:Nat)(h0:Flt.nanB b=false)(h1:¬Flt.skey b<=0)(h2:Flt.skey b<Flt.skey big)(h:(FloatKind.f64.decode b).toInt .zero=some (n:Int))(hn:n<9223372036854775808)(w:World) :
  Calls Tryz.prog 34 #[.float .f64 b] w fun e w'=>e=.returned (.int .i64 n)/\w'=w:=by
 have hc:=Awl b n h hn;have o1:FloatKind.f64.format.order b b=some .eq:=by rw[show FloatKind.f64.format.order b b=Flt.ord b b from rfl,Flt.ord_skey b b h0 h0,Flt.cmp_eq rfl]
 have o2:FloatKind.f64.format.order b 0=some .gt:=by rw[show FloatKind.f64.format.order b 0=Flt.ord b 0 from rfl,Flt.ord_skey b 0 h0 (by decide),Flt.cmp_gt (by rw[show Flt.skey 0=0 by decide];omega)]
 have o3:FloatKind.f64.format.order b 4741671816366391296=some .lt:=by rw[show FloatKind.f64.format.order b 4741671816366391296=Flt.ord b big from rfl,Flt.ord_skey b _ h0 (by decide),Flt.cmp_lt h2]
 go_enter Tryz.func34,Tryz.ntmps34
 go_wp2
 all_goals
  go_ret
  exact⟨rfl,rfl⟩
theorem A7h(b:Nat)(h0:Flt.nanB b=true)(w:World):Calls Tryz.prog 34 #[.float .f64 b] w fun e w'=>e=.returned (.int .i64 (0:Nat))/\w'=w:=by
 have o1:FloatKind.f64.format.order b b=none:=by rw[show FloatKind.f64.format.order b b=Flt.ord b b from rfl,Flt.ord_nan_left b b h0]
 go_enter Tryz.func34,Tryz.ntmps34
 go_wp2
 all_goals
  go_ret
  exact⟨rfl,rfl⟩
theorem A7i(b:Nat)(h0:Flt.nanB b=false)(h1:Flt.skey b<=0)(w:World):Calls Tryz.prog 34 #[.float .f64 b] w fun e w'=>e=.returned (.int .i64 (0:Nat))/\w'=w:=by
 have o1:FloatKind.f64.format.order b b=some .eq:=by rw[show FloatKind.f64.format.order b b=Flt.ord b b from rfl,Flt.ord_skey b b h0 h0,Flt.cmp_eq rfl]
 rcases Int.lt_or_eq_of_le h1 with h1|h1
 ·have o2:FloatKind.f64.format.order b 0=some .lt:=by rw[show FloatKind.f64.format.order b 0=Flt.ord b 0 from rfl,Flt.ord_skey b 0 h0 (by decide),Flt.cmp_lt (by rw[show Flt.skey 0=0 by decide];omega)]
  go_enter Tryz.func34,Tryz.ntmps34
  go_wp2
  all_goals
   go_ret
   exact⟨rfl,rfl⟩
 ·have o2:FloatKind.f64.format.order b 0=some .eq:=by rw[show FloatKind.f64.format.order b 0=Flt.ord b 0 from rfl,Flt.ord_skey b 0 h0 (by decide),Flt.cmp_eq (by rw[show Flt.skey 0=0 by decide];omega)]
  go_enter Tryz.func34,Tryz.ntmps34
  go_wp2
  all_goals
   go_ret
   exact⟨rfl,rfl⟩
theorem A7g(b:Nat)(h0:Flt.nanB b=false)(h1:Flt.skey big<=Flt.skey b)(w:World):Calls Tryz.prog 34 #[.float .f64 b] w fun e w'=>e=.returned (.int .i64 (1000000000:Nat))/\w'=w:=by
 have o1:FloatKind.f64.format.order b b=some .eq:=by rw[show FloatKind.f64.format.order b b=Flt.ord b b from rfl,Flt.ord_skey b b h0 h0,Flt.cmp_eq rfl]
 have hb:(0:Int)<Flt.skey big:=by decide
 have o2:FloatKind.f64.format.order b 0=some .gt:=by rw[show FloatKind.f64.format.order b 0=Flt.ord b 0 from rfl,Flt.ord_skey b 0 h0 (by decide),Flt.cmp_gt (by rw[show Flt.skey 0=0 by decide];omega)]
 rcases Int.lt_or_eq_of_le h1 with h1|h1
 ·have o3:FloatKind.f64.format.order b 4741671816366391296=some .gt:=by rw[show FloatKind.f64.format.order b 4741671816366391296=Flt.ord b big from rfl,Flt.ord_skey b _ h0 (by decide),Flt.cmp_gt h1]
  go_enter Tryz.func34,Tryz.ntmps34
  go_wp2
  all_goals
   go_ret
   exact⟨rfl,rfl⟩
 ·have o3:FloatKind.f64.format.order b 4741671816366391296=some .eq:=by rw[show FloatKind.f64.format.order b 4741671816366391296=Flt.ord b big from rfl,Flt.ord_skey b _ h0 (by decide),Flt.cmp_eq h1.symm]
  go_enter Tryz.func34,Tryz.ntmps34
  go_wp2
  all_goals
   go_ret
   exact⟨rfl,rfl⟩
theorem Agh{n:Int}{b:Nat}(h:within n b=true):Flt.nanB b=false/\Flt.skey (floatOfInt .f64 n)<=Flt.skey b:=by
 have hn:=Flt.ofInt_nan n;cases hb:Flt.nanB b with
 |true=>
  have:FloatKind.f64.format.order (floatOfInt .f64 n) b=none:=Flt.ord_nan_right _ b hb;simp[within,this] at h
 |false=>
  refine⟨rfl,?_⟩;have ho:FloatKind.f64.format.order (floatOfInt .f64 n) b=some (compare (Flt.skey (floatOfInt .f64 n)) (Flt.skey b)):=Flt.ord_skey _ b hn hb;rcases Int.lt_trichotomy (Flt.skey (floatOfInt .f64 n)) (Flt.skey b) with h1|h1|h1
  ·omega
  ·omega
  ·rw[Flt.cmp_gt h1] at ho;simp[within,ho] at h
theorem limit_all(b:Nat):∃L:Nat,L<=1000000000/\(∀w:World,Calls Tryz.prog 34 #[.float .f64 b] w fun e w'=>e=.returned (.int .i64 L)/\w'=w)/\∀n:Nat,n<=1000000000->within n b=true->n<=L:=by
 have Nl:big=floatOfInt .f64 (1000000000:Nat):=by decide +kernel
 cases h0:Flt.nanB b with
 |true=>exact⟨0,by omega,A7h b h0,fun n _ h=>by rw[(Agh h).1] at h0;cases h0⟩
 |false=>
  by_cases h1:Flt.skey b<=0
  ·refine⟨0,by omega,A7i b h0 h1,fun n hn h=>?_⟩
   by_cases hz:n=0
   ·omega
   ·have hle:=(Agh h).2;have:=Flt.le_cut h0 hz (by omega) hle;obtain⟨k1,k2⟩:=Flt.V_R n hz (by omega);have hk:=Flt.ofInt_key (n:Int);rw[if_neg (by omega),Int.natAbs_natCast] at hk;have Ch:Flt.R n=0:=by omega
    rw[Ch] at k2;have:0<n*Flt.U:=Nat.mul_pos (by omega) Flt.U_pos;have h3:Flt.V 0=0:=by decide
    omega
  ·by_cases h2:Flt.skey b<Flt.skey big
   ·have Yz:Flt.isNeg b=false:=by
     cases h:Flt.isNeg b with
     |false=>rfl
     |true=>unfold Flt.skey at h1;rw[h,if_pos rfl] at h1;omega
    rw[Nl] at h2;obtain⟨k1,k2⟩:=Flt.cut_lt (n:=1000000000) (by omega) (by omega) Yz h2;rw[<-Nl] at h2;have k3:=Flt.toInt_pos b k1 Yz;have k4:∀n:Nat,n<=1000000000->within n b=true->n<=Flt.V (Flt.rung b) / Flt.U:=fun n hn h=>by
     by_cases hz:n=0
     ·rw[hz];exact Nat.zero_le _
     ·exact (Flt.le_cut h0 hz (by omega) (Agh h).2).2
    generalize Flt.V (Flt.rung b) / Flt.U=q at k2 k3 k4;exact⟨q,by omega,A7j b q h0 h1 h2 k3 (by omega),k4⟩
   ·exact⟨1000000000,by omega,A7g b h0 (by omega),fun n hn _=>hn⟩
end Go.Proofs.YtdpigpopcbjkmaaGreatDoor.Nrm
namespace Go.Proofs.YtdpigpopcbjkmaaGreatDoor.Abs
open Go Go.RowKit Go.Proofs.YtdpigpopcbjkmaaGreatDoor
theorem Auw{P:Program}{f:Nat}{args:List SV}{r:SV}{v:Value}(hr:∀m,Rep m v r)(h:∀(m:Mem) (w:World) (vs:List Value),vs.length=args.length->(∀(j:Nat) v x,vs[j]?=some v->args[j]?=some x->Rep m v x) ->
  Calls P f vs.toArray w fun e w'=>e=.returned v/\w'=w):Contract P f args r:=by
 intro m w vs hm hl hp;refine (h m w vs hl hp).mono ?_;rintro e w' ⟨rfl,rfl⟩;exact⟨_,m,rfl,hr m,⟨.refl m,rfl⟩,fun _ _ _=>rfl,hm,rfl,rfl,rfl,Nat.le_refl _,fun _ _=>rfl⟩
theorem Ac2(b:Nat):∃L:Nat,L<=1000000000/\Con 34 [.float .f64 b] (.int .i64 L)/\∀n:Nat,n<=1000000000->Nrm.within n b=true->n<=L:=by
 obtain⟨L,h1,h2,h3⟩:=Nrm.limit_all b;refine⟨L,h1,Auw (fun m=>.int _ _) (fun m w vs hl hr=>?_),h3⟩
 match vs,hl with
 |[v],_=>
  have h0:=hr 0 v _ rfl rfl;cases h0;exact h2 w
end Go.Proofs.YtdpigpopcbjkmaaGreatDoor.Abs
