import Derived.Test.YtgfehkhcmnfpaaaGreatDoorIWg
import Derived.Test.YtgfehkhcmnfpaaaGreatDoorIOu
import Derived.Test.YtgfehkhcmnfpaaaGreatDoorIAfDk
import Derived.Test.YtgfehkhcmnfpaaaGreatDoorIWt
import Derived.Test.YtgfehkhcmnfpaaaGreatDoorIAfZ
import Derived.Test.YtgfehkhcmnfpaaaGreatDoorITm
import Derived.Test.YtgfehkhcmnfpaaaGreatDoorProg
import Derived.KernelRfl
import Derived.Test.YtgfehkhcmnfpaaaGreatDoorIEv
import Derived.Test.YtgfehkhcmnfpaaaGreatDoorRows
import Derived.OpenShut
import Derived.MakeChecks
import Derived.Test.YtgfehkhcmnfpaaaGreatDoorIAby
import Derived.Handed
set_option linter.all false
set_option maxRecDepth 20000
set_option maxHeartbeats 4000000
namespace Go.Proofs.YtgfehkhcmnfpaaaGreatDoor.Abs
open Go Go.RowKit Go.Proofs.YtgfehkhcmnfpaaaGreatDoor
section
variable{c:RC}{T:TR}{f:Nat}{ns:List By}{G:GV}
def uSG(c:RC)(k:Nat)(b:Int)(nm:SV)(G:GV)(a m n:Int)(done:List Tm):St:=
 ⟨(.gp 0 0::.int .i64 23::.J::.J::.ref 1 0 0 0::.ref 2 0 0 0::.int .i64 2::.J::.J::.osl 3 done.length 0 done.length::.int .i64 done.length::Cm (Cm (Cm (Ef (jk8 (.J::[])))))),[gOb (prG c k b nm::G),⟨true,5,[[.int .i64 0,.int .i64 0,.int .i64 0,.int .i64 0,.nils]],0,0,true⟩,⟨true,5,[[.int .i64 23,.int .i64 a,.int .i64 m,.int .i64 n,.nils]],0,0,true⟩,⟨false,5,done.map tv,done.length-1,done.length,true⟩]⟩
def UsG(c:RC)(k:Nat)(b:Int)(nm:SV)(G:GV)(a m n:Int)(done:List Tm)(out:HOut)(G':GV)(q:Nat):Prop:=
 vcI (Fb Tryz.prog fun _ _=>False) a86_107 (bk 1 (sq (Fb Tryz.prog fun _ _=>False) a86_116 (rtG [.cell 4 true 5] out G'))) q (uSG c k b nm G a m n done)
def A3k(hc:Dc c){k:Nat}{b:Int}{nm:SV}{a m n:Int}{done:List Tm}(hM:Kp 23 n=done.length)(w8:done.length<=100)(hk:k<=c.L.length+1) :
  UsG c k b nm G a m n done (.ret (.agg true (tv (.mk 23 a m n done)))) (prG c (Cy c k b 2).2.1 (Cy c k b 2).2.2 nm::G) 1:=by
 have kk:=Hn 23 n;rw[hM] at kk;have ce:=Eg (k:=k) (b:=b) (nm:=nm) (G:=G) hc hk 2;generalize Cy c k b 2=WE at *
 obtain⟨wE,kE,bE⟩:=WE;dsimp only at ce |-;refine Ao ?_;unfold uSG;rw[Bp];have ht:(done.map tv).take done.length=done.map tv:=q_js (by simp);unfold prG at ce |-
 repeat' first
 |simp only[go_sem,seval,q_je (show ¬(done.length:Int)<done.length by omega),q_g,ht]
 |refine Ag kk ?_
 |refine Ac ce ?_
def A3l(hc:Dc c)(hT:TPG c T f)(Ap:TI T)(Bz:TK T)(Bk:ns.length+2*f<=1000000){a e n:Int} :
  ∀(m k:Nat) (b:Int) (s:RS) (nm:SV) (done:List Tm),PRel c k b s->NmQ nm ns->(s.bad=false->c.L.length-s.k<f)->Kp 23 n=(done.length+m:Nat)->done.length+m<=100 ->
  ∃(q k':Nat) (b':Int) (nm':SV) (l:List Tm),PRel c k' b' (Ec T ns m s).2/\NmQ nm' ns/\((Ec T ns m s).2.bad=false->l=(Ec T ns m s).1) /\
   ∀G,UsG c k b nm G a e n done (.ret (.agg true (tv (.mk 23 a e n (done++l))))) (prG c (Cy c k' b' 2).2.1 (Cy c k' b' 2).2.2 nm'::G) q:=by
 intro m
 induction m with
 |zero=>
  intro k b s nm done h Ch hm hM hle;refine⟨1,k,b,nm,[],h,Ch,fun _=>rfl,fun G=>?_⟩;rw[q_k];exact A3k hc hM (by omega) h.1
 |succ m ih=>
  intro k b s nm done h Ch hm hM hle;obtain⟨k1,b1,nm1,t0,h1,m1,e1,c1⟩:=hT ns 2 k b s nm h Ch Bk hm (by decide);have hmono:=Bz ns 2 s;obtain⟨q,k',b',nm',l,g1,g2,g3,h2⟩:=ih k1 b1 (T ns 2 s).2 nm1 (done++[t0]) h1 m1 (fun hx=>by have:=hm (nb_T Ap hx);omega) (by rw[hM];simp;omega) (by simp;omega);refine⟨q+1,k',b',nm',t0::l,g1,g2,fun hx=>?_,fun G=>?_⟩
  ·show t0::l=(T ns 2 s).1::(Ec T ns m (T ns 2 s).2).1;have hb1:(T ns 2 s).2.bad=false:=by
    rcases Bool.eq_false_or_eq_true (T ns 2 s).2.bad with hb|hb
    ·have:=Aey Ap ns m _ hb;rw[show (Ec T ns (m+1) s).2=(Ec T ns m (T ns 2 s).2).2 from rfl,this,hb] at hx;cases hx
    ·exact hb
   rw[e1 hb1,g3 hx]
  have h2:=h2 G;have c1:=c1 G;rw[q_ju,q_ku] at h2;have kk:=Hn 23 n;rw[hM] at kk;have bb:Con 94 [.int .i64 23,.int .i64 done.length] (.int .i64 0):=Cp 23 done.length;have e3:(done.length+1)*56<=140737488355328:=by omega
  have e4:done.length+1<=140737488355328:=by omega
  have e1:(done.length:Int)<((done.length+(m+1):Nat):Int):=by omega
  generalize Cy c k' b' 2=WE at *
  refine Ao ?_;unfold UsG at h2;unfold uSG at h2 |-;unfold prG at c1 h2 |-
  repeat' first
  |simp only[go_sem,seval,q_jn e1,e3,e4,q_g,w64 (show fit ((done.length:Int)+1) by unfold fit;omega)]
  |refine Ag kk ?_
  |refine Ag bb ?_
  |refine Ac c1 ?_
  have eL:(done++[t0]).length=done.length+1:=by simp
  have eN:((done.length+1:Nat):Int)=(done.length:Int)+1:=rfl;have eM:(done++[t0]).map tv=done.map tv++[tv t0]:=by simp
  simp only[eL,eN,eM,Nat.add_sub_cancel] at h2;exact Afr (Fx 4 (by simp[Bm]) (by simp) (by simp[Dm]) (by simp[gOb])) h2
def A4d{k:Nat}{b:Int}(h:0<=b){kd:Nat}:Cy c k b kd=([],k,b):=by unfold Cy;rw[if_neg (by omega)]
def bG23{s:RS}{nm:SV}(hc:Dc c)(hT:TPG c T f)(Ap:TI T)(Bz:TK T)(hb:s.bad=false)(h:PRel c s.k (-1) s)(Ch:NmQ nm ns)(Bk:ns.length+2+2*f<=1000000)(hm:c.L.length-s.k<f):Hm c T ns 23 [83,76,77] s.k (-1) nm s:=by
 have hn:=hc.n;have hk:=h.1;have c1:=fun (G:GV)=>Vx (k:=s.k) (b:=-1) (nm:=nm) (G:=G) hc
 have c2:=Aqj (Er c s.k);have c3:=fun (G:GV)=>Ng (k:=s.k) (b:=-1) (nm:=nm) (G:=G) hc
 have hS:=Wr (c:=c) (T:=T) (ns:=ns) (s:=s) (k:=23) (x:={});have eF:∀i:Nat,Fk (-1) i=i:=fun i=>by unfold Fk;rw[if_pos (by decide)]
 by_cases hg:Da c s.k=3/\∃i,Es (Er c s.k) symsL=some i
 rotate_left
 ·-- no symbol
  have hbad:PRel c s.k s.k (Dh c T ns 23 83 {} s).2/\(Dh c T ns 23 83 {} s).2.bad=true:=by
   have h0:=h.fail (i:=s.k) (k':=s.k) hk hk;rw[eF] at h0;have h0b:(Bl c s s.k).bad=true:=by unfold Bl;rw[hb];rfl
   rw[hS]
   by_cases Dt:Da c s.k=3
   ·have hl:s.k<c.L.length:=by
     rcases q_jo s.k c.L.length with h'|h'
     ·exact h'
     ·unfold Da at Dt;rw[if_neg (by omega)] at Dt;cases Dt
    have ht3:(c.tk s.k).k=3:=by unfold Da at Dt;rwa [if_pos hl] at Dt
    have hw:Er c s.k=(c.tk s.k).w:=by unfold Er;rw[if_pos hl]
    have en:Ad c s 3=((c.tk s.k).w,s.nx):=by unfold Ad;rw[if_pos ⟨hb,hl,ht3⟩]
    have Fh:Es (c.tk s.k).w symsL=none:=by
     cases hq:Es (c.tk s.k).w symsL with
     |none=>rfl
     |some i=>exact absurd ⟨Dt,i,by rw[hw];exact hq⟩ hg
    rw[en];simp only[Fh];have e1:s.nx.k-1=s.k:=by show s.k+1-1=s.k;omega
    rw[e1];have hP1:PRel c (s.k+1) (-1) s.nx:=⟨by omega,by rw[show s.nx.bad=s.bad from rfl,hb,if_neg (by decide)];exact⟨rfl,rfl⟩⟩
    have h1:=hP1.fail (i:=s.k) (k':=s.k) hk hk;rw[eF] at h1;exact⟨h1,by unfold Bl;rw[show s.nx.bad=s.bad from rfl,hb];rfl⟩
   ·have en:Ad c s 3=([],Bl c s s.k):=by
     unfold Ad;rw[if_neg (fun k=>Dt (by unfold Da;rw[if_pos k.2.1];exact k.2.2))]
    rw[en];have Fh:Es [] symsL=none:=by decide
    simp only[Fh];rw[Rp h0b];exact⟨h0,h0b⟩
  have hI:=Akq (c:=c) Ap ns 23 [76,77] (Dh c T ns 23 83 {} s).1 _ hbad.2;have hP:PRel c s.k s.k (Im c T ns 23 [83,76,77] {} s).2:=hbad.1.ill' hbad.2 hI.1 hI.2 hk;have hl:=Ht (c:=c) (T:=T) Ap (ns:=ns) (k:=23) (sh:=[83,76,77]) (s:=s) (p:=s.k) (b:=s.k) (t:=zR) hP (fun hx=>by rw[show (Im c T ns 23 [83,76,77] {} s).2=(Im c T ns 23 [76,77] (Dh c T ns 23 83 {} s).1 (Dh c T ns 23 83 {} s).2).2 from rfl,hI.1] at hx;cases hx);rw[A4d (by omega)] at hl;refine⟨s.k,s.k,nm,zR,hl.1,Ch,hl.2,fun G=>?_⟩;clear hl hP hI hbad hS;have c1:=c1 G;have c3:=c3 G;have c4:=Qs (c:=c) (k:=s.k) (b:=-1) (nm:=nm) (G:=G) s.k;rw[eF] at c4;unfold zR;refine (Bq (out:=.ret (.agg true [.int .i64 0,.int .i64 0,.int .i64 0,.int .i64 0,.nils])) mixed Tryz.func86 tr86 ?_).weakG (Mp _ _ _ _)
  by_cases Dt:Da c s.k=3
  ·have Fh:Es (Er c s.k) symsL=none:=by
    cases hq:Es (Er c s.k) symsL with
    |none=>rfl
    |some i=>exact absurd ⟨Dt,i,hq⟩ hg
   rw[Fh] at c2;rw[Dt] at c3;have e3:((((3:Nat):Nat):Int) != 3)=false:=by decide
   have e0:((((0:Nat):Nat):Int)==0)=true:=by decide
   unfold prG at *
   repeat' first
   |simp only[go_sem,seval,e3,e0]
   |refine Ac c1 ?_
   |refine Ag c2 ?_
   |refine Ac c3 ?_
   |refine Ac c4 ?_
  ·have e3:(((Da c s.k:Nat):Int) != 3)=true:=by rw[bne_iff_ne];omega
   unfold prG at *
   repeat' first
   |simp only[go_sem,seval,e3]
   |refine Ac c1 ?_
   |refine Ag c2 ?_
   |refine Ac c3 ?_
   |refine Ac c4 ?_
 obtain⟨Dt,i,hi⟩:=hg;have hl:s.k<c.L.length:=by
  rcases q_jo s.k c.L.length with h'|h'
  ·exact h'
  ·unfold Da at Dt;rw[if_neg (by omega)] at Dt;cases Dt
 have ht3:(c.tk s.k).k=3:=by unfold Da at Dt;rwa [if_pos hl] at Dt
 have hw:Er c s.k=(c.tk s.k).w:=by unfold Er;rw[if_pos hl]
 have en:Ad c s 3=((c.tk s.k).w,s.nx):=by unfold Ad;rw[if_pos ⟨hb,hl,ht3⟩]
 rw[hw] at hi;have Yg:Dh c T ns 23 83 {} s=({ n:=i+1 },s.nx):=by rw[hS,en];simp only[hi]
 have hnl:i<21:=(q_jm.1 (findG hi).1).1;obtain⟨Ff,hk0,Gp⟩:=arG i hnl;have hP1:PRel c (s.k+1) (-1) s.nx:=⟨by omega,by rw[show s.nx.bad=s.bad from rfl,hb,if_neg (by decide)];exact⟨rfl,rfl⟩⟩
 obtain⟨k1,b1,n1,h1,e1,_,c5⟩:=Hp hc (c.L.length+1) _ _ s.nx hP1 (by omega);obtain⟨k2,b2,n2,h2,e2,_,c6⟩:=Hp hc (c.L.length+1) _ _ _ h1 (by omega);have hmo1:=Ei (c:=c) (c.L.length+1) s.nx;have hmo2:=Ei (c:=c) (c.L.length+1) (Af c (c.L.length+1) s.nx).2;have hnx:s.nx.k=s.k+1:=rfl;obtain⟨S2,Yh⟩:∃S2:RS,S2={ (Af c (c.L.length+1) (Af c (c.L.length+1) s.nx).2).2 with D:=[] }:=⟨_,rfl⟩
 have Yd:PRel c k2 b2 S2:=by rw[Yh];exact h2
 obtain⟨q,k',b',nm',l,g1,g2,g3,hu⟩:=A3l (c:=c) (T:=T) (f:=f) (ns:=ns) (a:=(n1:Nat)) (e:=(n2:Nat)) (n:=((i+1:Nat):Int)) hc hT Ap Bz (by omega) (arN (i+1)) k2 b2 S2 nm [] Yd Ch (fun hx=>by
  have:S2.k=(Af c (c.L.length+1) (Af c (c.L.length+1) s.nx).2).2.k:=by rw[Yh]
  omega) (by rw[Ff];simp) (by simp;omega)
 have hlN:(Im c T ns 23 [83,76,77] {} s)=({ a:=(Af c (c.L.length+1) s.nx).1,b:=(Af c (c.L.length+1) (Af c (c.L.length+1) s.nx).2).1,n:=i+1,bd:=[],l:=(Ec T ns (arN (i+1)) S2).1 },{ (Ec T ns (arN (i+1)) S2).2 with D:=(Af c (c.L.length+1) s.nx).2.D++[.int .i64 23,.int .i64 (Af c (c.L.length+1) s.nx).1,.int .i64 (Af c (c.L.length+1) (Af c (c.L.length+1) s.nx).2).1,.int .i64 (i+1:Nat),.dsl 5 ((Ec T ns (arN (i+1)) S2).1.map tv)]::(Ec T ns (arN (i+1)) S2).2.D }):=by
  rw[Im,Yg,Im,Bt,Im,Aeo,Im,Yh]
 have hPN:PRel c k' b' (Im c T ns 23 [83,76,77] {} s).2:=by rw[hlN];exact g1
 have hlo:=Ht (c:=c) (T:=T) Ap (ns:=ns) (k:=23) (sh:=[83,76,77]) (s:=s) (p:=k') (b:=b') (t:=.mk 23 (n1:Nat) (n2:Nat) ((i+1:Nat):Int) l) hPN (fun hx=>by
  rw[hlN] at hx |-;have hx:(Ec T ns (arN (i+1)) S2).2.bad=false:=hx;have Hr:S2.bad=false:=by
   rcases Bool.eq_false_or_eq_true S2.bad with h'|h'
   ·rw[Aey Ap ns _ _ h',h'] at hx;cases hx
   ·exact h'
  have hx3:(Af c (c.L.length+1) (Af c (c.L.length+1) s.nx).2).2.bad=false:=by rw[Yh] at Hr;exact Hr
  rw[g3 hx,e2 hx3,e1 (Du hx3)];rfl)
 refine⟨_,_,nm',_,hlo.1,g2,hlo.2,fun G=>?_⟩;clear hlo hPN hlN g1 g3;have c1:=c1 G;have c3:=c3 G;have c5:=c5 nm G;have c6:=c6 nm G;have hu:=hu G;rw[hw] at c1 c2;rw[hi] at c2;rw[Dt] at c3;have b1c:Con 94 [.int .i64 23,.int .i64 1] (.int .i64 0):=Cp 23 1;have n0:(((i+1:Nat):Int)==0)=false:=by rw[beq_eq_false_iff_ne];omega
 have e3:((((3:Nat):Nat):Int) != 3)=false:=by decide
 have w1:IntKind.i64.wrap ((s.k:Int)+1)=((s.k+1:Nat):Int):=by rw[w64 (by unfold fit;omega)];omega
 rw[q_kl] at hu;obtain⟨R,hR⟩:∃R,R=SV.agg true (tv (.mk 23 (n1:Nat) (n2:Nat) ((i+1:Nat):Int) l)):=⟨_,rfl⟩
 rw[<-hR] at hu |-;generalize Cy c k' b' 2=WE at *
 refine Bq mixed Tryz.func86 tr86 ?_;unfold UsG uSG at hu;unfold prG at c1 c3 c5 c6 hu |-
 repeat' first
 |simp only[go_sem,seval,n0,w1,e3]
 |refine Ac c1 ?_
 |refine Ag c2 ?_
 |refine Ac c3 ?_
 |refine Ac c5 ?_
 |refine Ac c6 ?_
 |refine Ag b1c ?_
 exact Dv q (Afr (.trans (.ghost _ 9 5 rfl) (Bv (by simp[Bm]))) hu)
end
section
variable{c:RC}{T:TR}{f:Nat}{ns:List By}{s:RS}{nm:SV}
def bodyG(hc:Dc c)(hT:TPG c T f)(Ap:TI T)(Bz:TK T)(hb:s.bad=false)(h:PRel c s.k (-1) s)(Ch:NmQ nm ns)(Bk:ns.length+2+2*f<=1000000)(hm:c.L.length-s.k<f){w:By}(hw:(Cr w).1≠0):Hm c T ns (Cr w).1 (Cr w).2 s.k (-1) nm s:=by
 by_cases hin:w∈formsG.map (·.1)
 ·simp only[formsG,q_h,q_i,q_kb,q_kc,or_false] at hin;rcases hin with rfl|rfl|rfl|rfl|rfl|rfl|rfl|rfl|rfl|rfl|rfl|rfl|rfl|rfl|rfl|rfl|rfl|rfl|rfl|rfl|rfl|rfl
  ·exact bG1 hc hT Ap Bz hb h Ch Bk hm
  ·exact bG3 hc hT Ap Bz hb h Ch Bk hm
  ·exact bG4 hc hT Ap Bz hb h Ch Bk hm
  ·exact bG5 hc hT Ap Bz hb h Ch Bk hm
  ·exact bG6 hc hT Ap Bz hb h Ch Bk hm
  ·exact bG7 hc hT Ap Bz hb h Ch Bk hm
  ·exact bG8 hc hT Ap Bz hb h Ch Bk hm
  ·exact bG9 hc hT Ap Bz hb h Ch Bk hm
  ·exact bG10 hc hT Ap Bz hb h Ch Bk hm
  ·exact bG11 hc hT Ap Bz hb h Ch Bk hm
  ·exact bG12 hc hT Ap Bz hb h Ch Bk hm
  ·exact bG13 hc hT Ap Bz hb h Ch Bk hm
  ·exact bG14 hc hT Ap Bz hb h Ch Bk hm
  ·exact bG15 hc hT Ap Bz hb h Ch Bk hm
  ·exact bG16 hc hT Ap Bz hb h Ch Bk hm
  ·exact bG17 hc hT Ap Bz hb h Ch Bk hm
  ·exact bG18 hc hT Ap Bz hb h Ch Bk hm
  ·exact bG19 hc hT Ap Bz hb h Ch Bk hm
  ·exact bG20 hc hT Ap Bz hb h Ch Bk hm
  ·exact bG21 hc hT Ap Bz hb h Ch Bk hm
  ·exact bG22 hc hT Ap Bz hb h Ch Bk hm
  ·exact bG23 hc hT Ap Bz hb h Ch Bk hm
 ·exfalso;refine hw ?_;have key:∀(l:List (By×Nat×By)),w ∉ l.map (·.1)->Ir w l=none:=by
   intro l
   induction l with
   |nil=>intro _;rfl
   |cons a l ih=>
    obtain⟨v,k,sh⟩:=a;intro h;rw[q_h,q_kb,not_or] at h;rw[Ir,if_neg (by simpa using fun e=>h.1 e.symm)];exact ih h.2
  unfold Cr;rw[key _ hin];rfl
def nmT:Option Nat->Tm
 |some n=>.mk 2 n 0 0 []
 |none=>zR
def nmI:Option Nat->Int
 |some n=>n
 |none=>0
def nmK:Option Nat->Int
 |some _=>2
 |none=>0
def Ae6(c:RC)(k:Nat)(nm:SV):Option Nat->List SV
 |some _=>prG c (k+1) (-1) nm
 |none=>prG c k k nm
def Ayw(z:Option Nat):nmT z=.mk (nmK z) (nmI z) 0 0 []:=by cases z<;>rfl
def Ayu{n:Nat}:nmK (some n)=2:=rfl
def Ayt{n:Nat}:nmI (some n)=n:=rfl
def Ak4:nmK none=0:=rfl
def Ak3:nmI none=0:=rfl
def Ayv{c:RC}{k n:Nat}{nm:SV}:Ae6 c k nm (some n)=prG c (k+1) (-1) nm:=rfl
def Ak5{c:RC}{k:Nat}{nm:SV}:Ae6 c k nm none=prG c k k nm:=rfl
def Avz(hc:Dc c)(hl:s.k<c.L.length)(ht:(c.tk s.k).k=3)(Ch:NmQ nm ns)(Bk:ns.length<=1000000)(want:Nat)(G:GV) :
  Cj 50 (prG c s.k (-1) nm::G) [.gp 0 0,.int .i64 want] (.ret (.agg true (tv (nmT (Es (c.tk s.k).w ns))))) (Ae6 c s.k nm (Es (c.tk s.k).w ns)::G):=by
 have hn:=hc.n;have c1:=Ng (k:=s.k) (b:=-1) (nm:=nm) (G:=G) hc;have c2:=Vx (k:=s.k) (b:=-1) (nm:=nm) (G:=G) hc;have c3:=Qs (c:=c) (k:=s.k) (b:=-1) (nm:=nm) (G:=G) s.k;rw[show Fk (-1) s.k=s.k by unfold Fk;rw[if_pos (by decide)]] at c3;rw[show Da c s.k=3 by unfold Da;rw[if_pos hl,ht]] at c1;rw[show Er c s.k=(c.tk s.k).w by unfold Er;rw[if_pos hl]] at c2;have e3:((((3:Nat):Nat):Int)==3)=true:=by decide
 have w1:IntKind.i64.wrap ((s.k:Int)+1)=((s.k+1:Nat):Int):=by rw[w64 (by unfold fit;omega)];omega
 generalize (c.tk s.k).w=w at *
 obtain⟨z,hz⟩:∃z,z=Es w ns:=⟨_,rfl⟩
 have Fo:=fun (x:Nat)=>Ahr (w:=w) (l:=ns) (x:=x)
 rw[<-hz] at Fo |-;have Uh:∀n,z=some n->n<ns.length:=fun n hn=>by rw[hz] at hn;exact (q_jm.1 (findG hn).1).1
 rw[Ayw];refine (Bq (out:=.ret (.agg true [.int .i64 (nmK z),.int .i64 (nmI z),.int .i64 0,.int .i64 0,.nils])) mixed Tryz.func50 tr50 ?_).weakG (Mp _ _ _ _);rcases Ch with⟨rfl,rfl⟩|rfl
 ·have hzn:z=none:=hz;subst hzn;rw[Ak5,Ak4,Ak3];unfold prG at *
  repeat' first
  |simp only[go_sem,seval,e3]
  |refine Ac c1 ?_
  |refine Ac c3 ?_
  |refine Dv 1 (Ao ?_)
 clear hz;obtain⟨g,hg⟩:∃g:Nat->By,∀m,ns.getD m []=g m:=⟨_,fun _=>rfl⟩
 have Dx:∀(m:Nat),m<ns.length->(ns.reverse.map wdG)[ns.length-1-m]?.getD []=[.str (bs (g m))]:=fun m hm=>by
  rw[q_ji,List.getElem?_reverse (by omega),show ns.length-1-(ns.length-1-m)=m by omega,<-hg,q_j,q_f hm];rfl
 simp only[hg] at Fo;clear hg;have Bh:(ns.reverse.map wdG).length=ns.length:=by simp
 unfold nmG at c1 c2 c3 |-;have Gn:(ns.length<=140737488355328)=True:=by simp;omega
 have ew:IntKind.i64.wrap ((ns.length:Int)-1)=(ns.length:Int)-1-(0:Nat):=by rw[w64 (by unfold fit;omega)];omega
 generalize ns.reverse.map wdG=R at *
 unfold prG at c1 c2 c3 |-;simp only[go_sem,seval];refine Ac c1 ?_;simp only[go_sem,seval,e3,Bh,Gn,forall_const];rw[ew];refine Hv (fun x:Nat=>⟨(.gp 0 0::.int .i64 want::.J::.J::.ref 1 0 0 0::.int .i64 ((ns.length:Int)-1-x)::Cm (Cm (Ef (jk2 (.J::[]))))),[gOb ([.dsl 3 (c.L.map De),.int .i64 s.k,.int .i64 (-1),.int .i64 c.i,.int .i64 c.j,.dsl 1 R]::G),⟨true,5,[[.int .i64 0,.int .i64 0,.int .i64 0,.int .i64 0,.nils]],0,0,true⟩]⟩) (fun x=>ns.length-x) (fun x=>x<=ns.length/\∀i,i<x->(g i==w)=false) (fun x hx=>?_) 0 ⟨Nat.zero_le _,fun i hi=>absurd hi (q_kp _)⟩ (Bv (by simp[Bm]));obtain⟨Mn,Hr⟩:=hx;obtain⟨f1,f2⟩:=Fo x Hr Mn
 by_cases Am:x<ns.length
 ·have hq:ns.length-1-x<ns.length:=by omega
  have eI:(ns.length:Int)-1-x=((ns.length-1-x:Nat):Int):=by omega
  have e0:(0:Int)<=((ns.length-1-x:Nat):Int):=by omega
  have e1:((ns.length-1-x:Nat):Int)<(ns.length:Int):=by omega
  have hr:=Dx x Am;have ew2:IntKind.i64.wrap ((ns.length:Int)-1)=(ns.length:Int)-1:=w64 (by unfold fit;omega);rw[eI];cases y8:(g x==w) with
  |false=>
   simp only[go_sem,seval,forall_const,e0,e1,hq,Bh,Gn,hr];refine Ac c2 ?_;simp only[go_sem,seval,y8,w64 (show fit (((ns.length-1-x:Nat):Int)-1) by unfold fit;omega)];refine⟨x+1,⟨by omega,by omega,fun i hi=>?_⟩,?_⟩
   ·by_cases Mj:i=x
    ·subst Mj;exact y8
    ·exact Hr i (by omega)
   ·rw[show ((ns.length-1-x:Nat):Int)-1=(ns.length:Int)-1-((x+1:Nat):Int) by omega];exact Bv (by simp[Bm])
  |true=>
   have hzx:=f2 Am y8;subst hzx;rw[Ayv,Ayu,Ayt];unfold prG;simp only[go_sem,seval,forall_const,e0,e1,hq,Bh,Gn,hr];refine Ac c2 ?_;simp only[go_sem,seval,y8,w1,Bh,Gn,forall_const,ew2,show (ns.length:Int)-1-((ns.length-1-x:Nat):Int)=(x:Int) by omega,w64 (show fit (x:Int) by unfold fit;omega)]
 ·have Ox:x=ns.length:=by omega
  have hzn:=f1 Ox;subst hzn;rw[Ak5,Ak4,Ak3];unfold prG;have eI:(ns.length:Int)-1-x=-1:=by omega
  rw[eI]
  repeat' first
  |simp only[go_sem,seval]
  |refine Ac c3 ?_
end
def WNe(c:RC):Prop:=∀k,k<c.L.length->(c.tk k).k=3->(c.tk k).w≠[]
def Adm{c:RC}(hc:Dc c)(hwn:WNe c):∀f,TPG c (Bw c f) f:=by
 have hn:=hc.n;intro f;have early:∀(f want k:Nat) (b:Int) (s:RS) (ns:List By) (nm:SV),PRel c k b s->NmQ nm ns->s.bad=true->∃(k':Nat) (b':Int) (nm':SV) (t:Tm),PRel c k' b' (Bw c f ns want s).2/\NmQ nm' ns/\((Bw c f ns want s).2.bad=false->t=(Bw c f ns want s).1) /\
   ∀(G:GV),Cj 50 (prG c k b nm::G) [.gp 0 0,.int .i64 want] (.ret (.agg true (tv t))) (prG c k' b' nm'::G):=by
  intro f want k b s ns nm h Ch hb;have hi:=Ke (c:=c) f ns want s hb;refine⟨k,b,nm,zR,by rw[hi];exact h,Ch,fun hx=>absurd (hb.symm.trans ((congrArg RS.bad hi).symm.trans hx)) (by decide),fun G=>?_⟩;have h2:0<=b:=by obtain⟨i,rfl,_⟩:=h.ill hb;omega
  unfold zR;refine (Bq (out:=.ret (.agg true [.int .i64 0,.int .i64 0,.int .i64 0,.int .i64 0,.nils])) mixed Tryz.func50 tr50 ?_).weakG (Mp _ _ _ _);unfold prG;simp only[go_sem,seval,h2]
 induction f with
 |zero=>
  intro ns want k b s nm h Ch Bk hm _;rcases Bool.eq_false_or_eq_true s.bad with hb|hb
  ·exact early 0 want k b s ns nm h Ch hb
  ·exact absurd (hm hb) (by omega)
 |succ f ih=>
  intro ns want k b s nm h Ch Bk hm Aar;rcases Bool.eq_false_or_eq_true s.bad with hb|hb
  ·exact early (f+1) want k b s ns nm h Ch hb
  obtain⟨rfl,rfl⟩:=h.good hb;have hm:=hm hb;have hk:=h.1;have eF:∀i:Nat,Fk (-1) i=i:=fun i=>by unfold Fk;rw[if_pos (by decide)]
  have bad0:∀(s':RS) (j i:Nat),PRel c s'.k (-1) s'->j<=c.L.length+1->i<=c.L.length+1->PRel c j i (Bl c s' i):=fun s' j i h' hj hi=>by
   have:=h'.fail (i:=i) (k':=j) hi hj
   rwa [eF] at this
  have fb:∀(s':RS),s'.bad=false->∀i,(Bl c s' i).bad=true:=fun s' h' i=>by unfold Bl;rw[h'];rfl
  have w1:∀j:Nat,j<=c.L.length+1->IntKind.i64.wrap ((j:Int)+1)=((j+1:Nat):Int):=fun j hj=>by rw[w64 (by unfold fit;omega)];omega
  -- a word that opens no list
  have shut:Da c s.k≠3->Da c s.k≠1->∀(G:GV),Cj 50 (prG c s.k (-1) nm::G) [.gp 0 0,.int .i64 want] (.ret (.agg true (tv zR))) (prG c s.k s.k nm::G):=fun k3 k1 G=>by
   have c1:=Ng (k:=s.k) (b:=-1) (nm:=nm) (G:=G) hc;have c2:=Eg (b:=-1) (nm:=nm) (G:=G) hc hk 1;have e3:(((Da c s.k:Nat):Int)==3)=false:=by rw[beq_eq_false_iff_ne];omega
   rw[show Cy c s.k (-1) 1=([],s.k,(s.k:Int)) by unfold Cy;rw[if_pos (by decide),if_neg k1]] at c2;have m3:0<=(s.k:Int):=by omega
   unfold zR;refine (Bq (out:=.ret (.agg true [.int .i64 0,.int .i64 0,.int .i64 0,.int .i64 0,.nils])) mixed Tryz.func50 tr50 ?_).weakG (Mp _ _ _ _);unfold prG at *
   repeat' first
   |simp only[go_sem,seval,e3,m3]
   |refine Ac c1 ?_
   |refine Ac c2 ?_
  by_cases hl:s.k<c.L.length
  rotate_left
  ·have e:Bw c (f+1) ns want s=(zR,Bl c s s.k):=by rw[Bw,if_neg (by rw[hb];decide),if_pos hl]
   rw[e];have k0:Da c s.k=0:=by unfold Da;rw[if_neg hl]
   exact⟨s.k,s.k,nm,zR,bad0 s _ _ h hk hk,Ch,fun _=>rfl,shut (by rw[k0];decide) (by rw[k0];decide)⟩
  have k0:Da c s.k=(c.tk s.k).k:=by unfold Da;rw[if_pos hl]
  have hP1:PRel c (s.k+1) (-1) s.nx:=⟨by omega,by rw[show s.nx.bad=s.bad from rfl,hb,if_neg (by decide)];exact⟨rfl,rfl⟩⟩
  have hb1:s.nx.bad=false:=hb
  by_cases t3:(c.tk s.k).k=3
  ·have e:Bw c (f+1) ns want s=Iw c ns s:=by rw[Bw,if_neg (by rw[hb];decide),if_neg (by omega),if_pos t3]
   rw[e];have Hf:=fun (G:GV)=>Avz (want:=want) hc hl t3 Ch (by omega) G
   unfold Iw;cases hf:Es (c.tk s.k).w ns with
   |some n=>
    rw[hf] at Hf;exact⟨s.k+1,-1,nm,.mk 2 n 0 0 [],hP1,Ch,fun _=>rfl,Hf⟩
   |none=>
    rw[hf] at Hf;exact⟨s.k,s.k,nm,zR,bad0 s _ _ h hk hk,Ch,fun _=>rfl,Hf⟩
  by_cases t1:(c.tk s.k).k=1
  rotate_left
  ·have en:Ad c s 1=([],Bl c s s.k):=by unfold Ad;rw[if_neg (fun k=>t1 k.2.2)]
   have e:Bw c (f+1) ns want s=(zR,Bl c s s.k):=by
    rw[Bw,if_neg (by rw[hb];decide),if_neg (by omega),if_neg t3];dsimp only;rw[en,Lx (fb s hb _)];dsimp only;rw[if_pos (fb s hb _)]
   rw[e];exact⟨s.k,s.k,nm,zR,bad0 s _ _ h hk hk,Ch,fun _=>rfl,shut (by rw[k0];exact t3) (by rw[k0];exact t1)⟩
  have en:Ad c s 1=((c.tk s.k).w,s.nx):=by unfold Ad;rw[if_pos ⟨hb,hl,t1⟩]
  have Mn:s.nx.k=s.k+1:=rfl;have e0:Bw c (f+1) ns want s=(if (Ad c s.nx 3).2.bad then (zR,(Ad c s.nx 3).2)
   else if (Cr (Ad c s.nx 3).1).1=0\/(want=1/\12<(Cr (Ad c s.nx 3).1).1)\/(want=2/\2<(Cr (Ad c s.nx 3).1).1/\(Cr (Ad c s.nx 3).1).1<=12) then (zR,Bl c (Ad c s.nx 3).2 s.nx.k)
   else Ai c (Bw c f) ns (Cr (Ad c s.nx 3).1).1 (Cr (Ad c s.nx 3).1).2 (Ad c s.nx 3).2):=by
   rw[Bw,if_neg (by rw[hb];decide),if_neg (by omega),if_neg t3];dsimp only;rw[en]
  rw[e0];clear e0;have c1:=fun (G:GV)=>Ng (k:=s.k) (b:=-1) (nm:=nm) (G:=G) hc
  have c2:=fun (G:GV)=>Eg (b:=-1) (nm:=nm) (G:=G) hc hk 1
  rw[show Cy c s.k (-1) 1=(Er c s.k,s.k+1,-1) by unfold Cy;rw[if_pos (by decide),k0,if_pos t1]] at c2;rw[k0,t1] at c1;have e13:((((1:Nat):Nat):Int)==3)=false:=by decide
  have c3:=fun (G:GV)=>Avy (k:=s.k+1) (b:=-1) (nm:=nm) (G:=G) hc want
  have c4:=fun (G:GV)=>Qs (c:=c) (k:=s.k+1) (b:=-1) (nm:=nm) (G:=G) (s.k+1)
  rw[eF] at c4;have hf1:PRel c (s.k+1) ((s.k+1:Nat):Int) (Bl c s.nx (s.k+1)):=bad0 s.nx _ _ hP1 (by omega) (by omega)
  -- no list: a fault at the word
  have none0:(if Da c (s.k+1)=3 then Pa (Er c (s.k+1)) want else 0)=0->∀(G:GV),Cj 50 (prG c s.k (-1) nm::G) [.gp 0 0,.int .i64 want] (.ret (.agg true (tv zR))) (prG c (s.k+1) ((s.k+1:Nat):Int) nm::G):=fun hz G=>by
   have c1:=c1 G;have c2:=c2 G;have c3:=c3 G;have c4:=c4 G;rw[hz] at c3;have e0:((((0:Nat):Nat):Int)==0)=true:=by decide
   unfold zR;refine (Bq (out:=.ret (.agg true [.int .i64 0,.int .i64 0,.int .i64 0,.int .i64 0,.nils])) mixed Tryz.func50 tr50 ?_).weakG (Mp _ _ _ _);unfold prG at *
   repeat' first
   |simp only[go_sem,seval,e13,e0]
   |refine Ac c1 ?_
   |refine Ac c2 ?_
   |refine Ac c3 ?_
   |refine Ac c4 ?_
  by_cases hg:s.k+1<c.L.length/\(c.tk (s.k+1)).k=3
  rotate_left
  ·have k3:Da c (s.k+1)≠3:=fun Dt=>hg (by
    have hl2:s.k+1<c.L.length:=by
     rcases q_jo (s.k+1) c.L.length with h'|h'
     ·exact h'
     ·unfold Da at Dt;rw[if_neg (by omega)] at Dt;cases Dt
    exact⟨hl2,by unfold Da at Dt;rwa [if_pos hl2] at Dt⟩)
   have en2:Ad c s.nx 3=([],Bl c s.nx (s.k+1)):=by unfold Ad;rw[if_neg (fun k=>hg ⟨k.2.1,k.2.2⟩)];rfl
   rw[en2,if_pos (fb s.nx hb1 _)];exact⟨s.k+1,((s.k+1:Nat):Int),nm,zR,hf1,Ch,fun _=>rfl,none0 (by rw[if_neg k3])⟩
  obtain⟨hl2,t32⟩:=hg;have k3:Da c (s.k+1)=3:=by unfold Da;rw[if_pos hl2];exact t32
  have x3:Er c (s.k+1)=(c.tk (s.k+1)).w:=by unfold Er;rw[if_pos hl2]
  have en2:Ad c s.nx 3=((c.tk (s.k+1)).w,s.nx.nx):=by unfold Ad;rw[if_pos ⟨hb1,hl2,t32⟩];rfl
  rw[en2];dsimp only;rw[if_neg (by rw[show s.nx.nx.bad=s.bad from rfl,hb];decide)];have hlw:=Axu (hwn _ hl2 t32) Aar;rw[if_pos k3,x3] at none0;rw[if_pos k3,x3] at c3
  by_cases hcond:(Cr (c.tk (s.k+1)).w).1=0\/(want=1/\12<(Cr (c.tk (s.k+1)).w).1)\/(want=2/\2<(Cr (c.tk (s.k+1)).w).1/\(Cr (c.tk (s.k+1)).w).1<=12)
  ·rw[if_pos hcond] at hlw;rw[if_pos hcond];have Sb:PRel c (s.k+1) ((s.k+1:Nat):Int) (Bl c s.nx.nx (s.k+1)):=by
    refine hf1.ill' (fb s.nx hb1 _) ?_ ?_ (by omega)
    ·unfold Bl;rw[show s.nx.nx.bad=s.bad from rfl,hb];rfl
    ·unfold Bl;rw[show s.nx.nx.bad=s.bad from rfl,show s.nx.bad=s.bad from rfl,hb];rfl
   exact⟨s.k+1,((s.k+1:Nat):Int),nm,zR,Sb,Ch,fun _=>rfl,none0 hlw⟩
  ·rw[if_neg hcond] at hlw;rw[if_neg hcond];rw[hlw] at c3;have Jw:(Cr (c.tk (s.k+1)).w).1≠0:=fun h=>hcond (.inl h)
   have Yd:PRel c s.nx.nx.k (-1) s.nx.nx:=⟨by show s.k+1+1<=_;omega,by rw[show s.nx.nx.bad=s.bad from rfl,hb,if_neg (by decide)];exact⟨rfl,rfl⟩⟩
   obtain⟨k',b',nm',t,g1,g2,g3,g4⟩:=bodyG (c:=c) (T:=Bw c f) (f:=f) (ns:=ns) (s:=s.nx.nx) (nm:=nm) hc ih (Ke f) (Xe f) hb Yd Ch (by omega) (by show c.L.length-(s.k+1+1)<f;omega) Jw;refine⟨k',b',nm',t,g1,g2,g3,fun G=>?_⟩;have c1:=c1 G;have c2:=c2 G;have c3:=c3 G;have g4:=g4 G;have hz:=Br t;have ez:(((Cr (c.tk (s.k+1)).w).1:Int)==0)=false:=by rw[beq_eq_false_iff_ne];omega
   have hw2:=w1 (s.k+1) (by omega);rw[show s.nx.nx.k=s.k+1+1 from rfl] at g4;generalize (Cr (c.tk (s.k+1)).w).1=gk at *
   generalize tv t=tt at *
   refine Bq mixed Tryz.func50 tr50 ?_;unfold prG at c1 c2 c3 g4 |-
   repeat' first
   |simp only[go_sem,seval,e13,ez,hw2,hz]
   |refine Ac c1 ?_
   |refine Ac c2 ?_
   |refine Ac c3 ?_
   |refine Ac g4 ?_
def Aqi{n:Nat}(hn:n<=1000000000):Con 35 [.int .i64 n] (.str (bs (Lib.itoa (n:Nat)))):=by
 refine Aha (fun m w vs h1 h2 h3=>?_)
 match vs,h2 with
 |[a],_=>
  have ha:=h3 0 a _ rfl rfl;cases ha;exact A1h hn
def nmN(n:Nat):SV:=if n=0 then .nils else nmG (Di n)
def Ae5(n:Nat):NmQ (nmN n) (Di n):=by
 unfold nmN;split
 ·subst n;exact .inl ⟨rfl,rfl⟩
 ·exact .inr rfl
def vnR(x:Nat):GV:=(List.range x).map fun i=>[SV.str (bs (118::Lib.itoa (i:Nat)))]
def A4b(x:Nat):vnR (x+1)=vnR x++[[SV.str (bs (118::Lib.itoa (x:Nat)))]]:=by
 unfold vnR;rw[List.range_succ,q_kt];rfl
def Afu(x:Nat):(vnR x).length=x:=by simp[vnR]
def j7(n:Nat):SV.dsl 1 (vnR n)=nmG (Di n):=by
 unfold vnR nmG Di;simp only[List.reverse_reverse,List.map_map];rfl
def vnS(n:Nat):Nat->St
 |0=>⟨(.int .i64 n::.J::.J::.nils::.int .i64 0::Ef ([])),[]⟩
 |x+1=>⟨(.int .i64 n::.J::.J::.osl 1 x 0 (x+1)::.int .i64 (x+1:Nat)::Ef ([])),[⟨false,1,vnR 1,0,0,true⟩,⟨false,1,vnR (x+1),x,x,true⟩]⟩
def Afv(n:Nat):vnS n 0=⟨(.int .i64 n::.J::.J::.nils::.int .i64 0::Ef ([])),[]⟩:=rfl
def Abr(n x:Nat):vnS n (x+1)=⟨(.int .i64 n::.J::.J::.osl 1 x 0 (x+1)::.int .i64 (x+1:Nat)::Ef ([])),[⟨false,1,vnR 1,0,0,true⟩,⟨false,1,vnR (x+1),x,x,true⟩]⟩:=rfl
def Aci{n:Nat}(hn:n<=1000000):Con 49 [.int .i64 n] (nmN n):=by
 refine Cu mixed Tryz.func49 tr49 ?_;simp only[go_sem,seval];refine Nz (vnS n) n (fun x hx=>?_) ?_
 ·have e0:(n:Int)<=1000000:=by omega
  by_cases h:x<n
  ·have cn:=Aqi (n:=x) (by omega);have e1:(x:Int)<(n:Int):=by omega
   have hl:=Aav x (by omega);have hs:1+(Lib.itoa (x:Nat)).length<=9223372036854775807:=by omega
   have hw:IntKind.i64.wrap ((x:Int)+1)=((x+1:Nat):Int):=by rw[w64 (by unfold fit;omega)];omega
   cases x with
   |zero=>
    have e2:(0:Int)<(n:Int):=by omega
    have Wl:1+(Lib.itoa 0).length<=9223372036854775807:=hs;have hw0:IntKind.i64.wrap (0+1)=((0+1:Nat):Int):=hw;change Con 35 [.int .i64 0] _ at cn;rw[Afv]
    repeat' first
    |simp only[go_sem,seval,e0,e2,hw0,Wl]
    |refine Ag cn ?_
    refine⟨h,?_⟩;rw[Abr];exact Fx 2 (by simp[Bm]) (by rfl) (by simp[Dm]) (by simp[Dm,vnR])
   |succ x=>
    rw[Abr]
    repeat' first
    |simp only[go_sem,seval,e0,e1,hw,hs]
    |refine Ag cn ?_
    refine⟨⟨(Afu _).symm,by omega,by omega⟩,h,?_⟩;rw[Abr,<-A4b,Afu];exact Fx 2 (by simp[Bm]) (by simp) (by simp[Dm]) (by simp[Dm])
  ·have:x=n:=by omega
   subst this;have e1:¬((x:Int)<(x:Int)):=by omega
   cases x with
   |zero=>
    rw[Afv];simp only[go_sem,seval,e0,e1];rfl
   |succ x=>
    rw[Abr];simp only[go_sem,seval,e0,e1];rw[q_js (by rw[Afu];exact q_ja _),j7];rfl
 ·rw[Afv];exact Bv (by simp[Bm])
def Adl{c:RC}(hc:Dc c){k:Nat}{b:Int}{s:RS}(h:PRel c k b s):∃(k':Nat) (b':Int) (n:Nat),PRel c k' b' (Fi c s).2/\((Fi c s).2.bad=false->n=(Fi c s).1)/\n<=1000 /\
  ∀(nm:SV) (G:GV),Cj 48 (prG c k b nm::G) [.gp 0 0] (.ret (.int .i64 n)) (prG c k' b' nm::G):=by
 unfold Fi;rcases Bool.eq_false_or_eq_true s.bad with hb|hb
 ·rw[if_neg (fun k=>by rw[hb] at k;cases k.1)];obtain⟨k',b',n,g1,g2,g3,g4⟩:=Hp hc (c.L.length+1) k b s h (by omega);refine⟨k',b',n,g1,g2,g3,fun nm G=>?_⟩;have c1:=g4 nm G;have Ci:¬b<0:=by obtain⟨i,rfl,_⟩:=h.ill hb;omega
  refine Bq mixed Tryz.func48 tr48 ?_;unfold prG at *
  repeat' first
  |simp only[go_sem,seval,Ci]
  |refine Ac c1 ?_
 ·obtain⟨rfl,rfl⟩:=h.good hb
  by_cases h4:s.k<c.L.length/\(c.tk s.k).k=4
  ·rw[if_neg (fun k=>k.2 h4)];obtain⟨k',b',n,g1,g2,g3,g4⟩:=Hp hc (c.L.length+1) s.k (-1) s h (by omega);refine⟨k',b',n,g1,g2,g3,fun nm G=>?_⟩;have c1:=g4 nm G;have c2:=Ng (k:=s.k) (b:=-1) (nm:=nm) (G:=G) hc;rw[show Da c s.k=4 by unfold Da;rw[if_pos h4.1];exact h4.2] at c2;refine Bq mixed Tryz.func48 tr48 ?_;have e4:((((4:Nat):Nat):Int) != 4)=false:=by decide
   unfold prG at *
   repeat' first
   |simp only[go_sem,seval,e4]
   |refine Ac c2 ?_
   |refine Ac c1 ?_
  ·rw[if_pos ⟨hb,h4⟩];have hf:=h.fail (i:=s.k) (k':=s.k) h.1 h.1;have eF:Fk (-1) s.k=s.k:=by unfold Fk;rw[if_pos (by decide)]
   rw[eF] at hf;have Fo:(Bl c s s.k).bad=true:=by unfold Bl;rw[hb];rfl
   obtain⟨k',b',n,g1,g2,g3,g4⟩:=Hp hc (c.L.length+1) s.k s.k (Bl c s s.k) hf (by omega);rw[Oz Fo] at g1;refine⟨k',b',n,g1,(fun hx=>by rw[Fo] at hx;cases hx),g3,fun nm G=>?_⟩;have c1:=g4 nm G;have c2:=Ng (k:=s.k) (b:=-1) (nm:=nm) (G:=G) hc;have c3:=Qs (c:=c) (k:=s.k) (b:=-1) (nm:=nm) (G:=G) s.k;rw[eF] at c3;have e4:(((Da c s.k:Nat):Int) != 4)=true:=by
    rw[bne_iff_ne];intro hk;apply h4;have hk4:Da c s.k=4:=by omega
    unfold Da at hk4;split at hk4
    ·exact⟨by assumption,hk4⟩
    ·cases hk4
   refine Bq mixed Tryz.func48 tr48 ?_;unfold prG at *
   repeat' first
   |simp only[go_sem,seval,e4]
   |refine Ac c2 ?_
   |refine Ac c3 ?_
   |refine Ac c1 ?_
def Af0(tx:By):WNe (cW tx):=fun k hk h3 h=>by
 have hL:(cW tx).L=(Bi tx).1:=(qc_L tx).1;have e:(cW tx).tk k=(Bi tx).1.getD k tk0:=by unfold RC.tk;rw[hL];rfl
 rw[hL] at hk;have h1:=(Jz tx).dropk k hk;rw[List.drop_eq_getElem_cons hk] at h1;have h2:=h1.wpos;rw[e,q_j,q_f hk,q_jz] at h;rw[h] at h2;exact absurd h2 (by decide)
def rc_c{tx:By}(hl:tx.length<=3000):Dc (cW tx)/\(cW tx).L.length<=3000:=by
 have hL:(cW tx).L=(Bi tx).1:=(qc_L tx).1;have h1:=(Jz tx).le.2.1;refine⟨⟨by rw[hL];omega,Nat.zero_le _,Nat.zero_le _⟩,by rw[hL];omega⟩
def Mu(c:RC)(eq:Bool)(e:List (Tm×Nat)×RS):XQ×RS:=
 let l:=Fi c (Ad c e.2 2).2
 let n:=e.1.length
 let t1:=tmP c n 1 l.2
 let t2:=tmP c n 1 t1.2
 if eq=false then (⟨e.1,false,l.1,t2.1,t1.1,zR,zR,zR⟩,t2.2)
 else
  let t3:=tmP c n 1 t2.2
  let t4:=tmP c n 1 t3.2
  let t5:=tmP c n 2 t4.2
  (⟨e.1,true,l.1,t1.1,t2.1,t3.1,t4.1,t5.1⟩,t5.2)
def An5(c:RC)(s:RS):Rj c s=Mu c (Gu c s).1 (Hy c (c.L.length+1) [] (Ad c (Gu c s).2 1).2):=rfl
section
variable{c:RC}{s:RS}
def Ae8(h:s.bad=true):(Fi c s).2=s:=by
 unfold Fi;rw[if_neg (fun k=>by rw[h] at k;cases k.1),Oz h]
def A2u(h:s.bad=true)(n w:Nat):(tmP c n w s).2=s:=by
 unfold tmP;rw[Ke _ _ _ _ h]
def Amd(e:List (Tm×Nat)×RS)(h:e.2.bad=true)(eq:Bool):(Mu c eq e).2=e.2:=by
 unfold Mu;dsimp only;rw[Lx h];dsimp only;cases eq<;>simp only[Ae8 h,A2u h,if_true,if_false,Bool.true_eq_false]
end
def Ls(tx:By)(b:XQ×RS):XQ×Option Nat:=
 let c:=cW tx
 let s:=(Ad c b.2 2).2
 let s2:=if s.bad=false/\(s.k<c.L.length\/(Bi tx).2.isSome) then Bl c s s.k else s
 (b.1,if s2.bad then some s2.at_ else none)
def Azu(tx:By):Rc tx=Ls tx (Rj (cW tx) (Ad (cW tx) ⟨0,false,0,[]⟩ 1).2):=rfl
def Auq{tx:By}{x y:XQ}{s:RS}(h:s.bad=true):If (Ls tx (x,s))=If (Ls tx (y,s)):=by
 unfold Ls;dsimp only;rw[Lx h];dsimp only;have e1:(if s.bad=false/\(s.k<(cW tx).L.length\/(Bi tx).2.isSome=true) then Bl (cW tx) s s.k else s)=s:=if_neg (fun k=>by rw[h] at k;cases k.1);rw[e1,if_pos h];rfl
def Aup{tx:By}{eq:Bool}(h:(Gu (cW tx) (Ad (cW tx) ⟨0,false,0,[]⟩ 1).2).2.bad=false->(Gu (cW tx) (Ad (cW tx) ⟨0,false,0,[]⟩ 1).2).1=eq) :
  If (Rc tx)=If (Ls tx (Mu (cW tx) eq (Hy (cW tx) ((cW tx).L.length+1) [] (Ad (cW tx) (Gu (cW tx) (Ad (cW tx) ⟨0,false,0,[]⟩ 1).2).2 1).2))):=by
 rw[Azu,An5];generalize Gu (cW tx) (Ad (cW tx) ⟨0,false,0,[]⟩ 1).2=hd at *
 rcases Bool.eq_false_or_eq_true hd.2.bad with hb|hb
 ·rw[Lx hb];dsimp only;rw[Acj hb];have h1:=Amd (c:=cW tx) (([]:List (Tm×Nat)),hd.2) hb hd.1;have h2:=Amd (c:=cW tx) (([]:List (Tm×Nat)),hd.2) hb eq;generalize Mu (cW tx) hd.1 ([],hd.2)=p1 at *
  generalize Mu (cW tx) eq ([],hd.2)=p2 at *
  obtain⟨x,s⟩:=p1;obtain⟨y,s'⟩:=p2;dsimp only at h1 h2;subst h1;subst h2;exact Auq hb
 ·rw[h hb]
def Ahp{tx:By}{x:XQ}{s:RS}{k:Nat}{b:Int}(h:PRel (cW tx) k b (Ad (cW tx) s 2).2) :
  (∃i:Nat,b=i/\If (Ls tx (x,s))=[.agg true zx,.int .i64 2,.int .i64 (Pf (cW tx) i)]) \/
  (b=-1/\(Ad (cW tx) s 2).2.bad=false/\(k<(cW tx).L.length\/0<=Ha tx)/\If (Ls tx (x,s))=[.agg true zx,.int .i64 2,.int .i64 (Pf (cW tx) k)]) \/
  (b=-1/\(Ad (cW tx) s 2).2.bad=false/\¬k<(cW tx).L.length/\¬0<=Ha tx/\If (Ls tx (x,s))=[.agg true (xqV x),.int .i64 0,.int .i64 0]):=by
 unfold Ls;dsimp only;generalize (Ad (cW tx) s 2).2=u at *
 rcases Bool.eq_false_or_eq_true u.bad with hb|hb
 ·obtain⟨i,h1,_,h3⟩:=h.ill hb;refine .inl ⟨i,h1,?_⟩;have e1:(if u.bad=false/\(u.k<(cW tx).L.length\/(Bi tx).2.isSome=true) then Bl (cW tx) u u.k else u)=u:=if_neg (fun k=>by rw[hb] at k;cases k.1);rw[e1,if_pos hb,h3];rfl
 ·obtain⟨rfl,rfl⟩:=h.good hb;have hf:(Bi tx).2.isSome=true↔0<=Ha tx:=by
   unfold Ha;cases (Bi tx).2 with
   |none=>simp
   |some p=>simp
  by_cases hc:u.k<(cW tx).L.length\/(Bi tx).2.isSome=true
  ·refine .inr (.inl ⟨rfl,hb,hc.imp id hf.1,?_⟩);have e1:(if u.bad=false/\(u.k<(cW tx).L.length\/(Bi tx).2.isSome=true) then Bl (cW tx) u u.k else u)=Bl (cW tx) u u.k:=if_pos ⟨hb,hc⟩;have Fo:(Bl (cW tx) u u.k).bad=true:=by unfold Bl;rw[hb];rfl
   have e2:(Bl (cW tx) u u.k).at_=Pf (cW tx) u.k:=by unfold Bl;rw[hb];rfl
   rw[e1,if_pos Fo,e2];rfl
  ·refine .inr (.inr ⟨rfl,hb,fun k=>hc (.inl k),fun k=>hc (.inr (hf.2 k)),?_⟩);have e1:(if u.bad=false/\(u.k<(cW tx).L.length\/(Bi tx).2.isSome=true) then Bl (cW tx) u u.k else u)=u:=if_neg (fun k=>hc k.2);rw[e1,if_neg (show ¬u.bad=true by rw[hb];decide)];rfl
def Az7{c:RC}{k:Nat}{b:Int}{s:RS}(h:PRel c k b s)(hk:k<=c.L.length) :
  PRel c (k+1) (if b<0 then (if Da c k=3/\(Er c k=[116,101,114,109]\/Er c k=[101,113,117,97,108]) then b else k) else b) (Gu c s).2 /\
  ((Gu c s).2.bad=false->(Gu c s).1=(Er c k==[101,113,117,97,108])):=by
 unfold Gu;dsimp only;rcases Bool.eq_false_or_eq_true s.bad with hb|hb
 ·have h0:=h.lt0;rw[hb] at h0;rw[if_neg (fun k=>by simpa using h0.1 k),if_pos hb];exact⟨h.ill' hb hb rfl (by omega),fun hx=>by rw[hb] at hx;cases hx⟩
 ·obtain⟨rfl,rfl⟩:=h.good hb;have e0:∀X:RS,(if s.bad=true then s else X)=X:=fun X=>if_neg (by rw[hb];decide)
  rw[if_pos (show (-1:Int)<0 by decide),e0];have e:(s.k<c.L.length/\(c.tk s.k).k=3/\((c.tk s.k).w=[116,101,114,109]\/(c.tk s.k).w=[101,113,117,97,108]))↔(Da c s.k=3/\(Er c s.k=[116,101,114,109]\/Er c s.k=[101,113,117,97,108])):=by
   unfold Da Er
   by_cases hl:s.k<c.L.length
   ·rw[if_pos hl,if_pos hl];exact⟨fun h=>h.2,fun h=>⟨hl,h⟩⟩
   ·rw[if_neg hl,if_neg hl];exact⟨fun h=>absurd h.1 hl,fun h=>absurd h.1 (by decide)⟩
  by_cases hc:s.k<c.L.length/\(c.tk s.k).k=3/\((c.tk s.k).w=[116,101,114,109]\/(c.tk s.k).w=[101,113,117,97,108])
  ·rw[if_pos hc,if_pos (e.1 hc)];refine⟨⟨by omega,by rw[show s.nx.bad=s.bad from rfl,hb,if_neg (by decide)];exact⟨rfl,rfl⟩⟩,fun _=>?_⟩;rw[show Er c s.k=(c.tk s.k).w by unfold Er;rw[if_pos hc.1]]
   by_cases hw:(c.tk s.k).w=[101,113,117,97,108]
   ·rw[q_jn (show s.k<c.L.length/\(c.tk s.k).w=[101,113,117,97,108] from ⟨hc.1,hw⟩),beq_iff_eq.2 hw]
   ·rw[q_je (show ¬(s.k<c.L.length/\(c.tk s.k).w=[101,113,117,97,108]) from fun h=>hw h.2),beq_eq_false_iff_ne.2 hw]
  ·rw[if_neg hc,if_neg (fun k=>hc (e.2 k))];have hf:=h.fail (i:=s.k) (k':=s.k+1) h.1 (by omega);unfold Fk at hf;rw[if_pos (show (-1:Int)<0 by decide)] at hf;exact⟨hf,fun hx=>by unfold Bl at hx;rw[hb] at hx;cases hx⟩
section
variable{tx:By}{r:List SV}
def tf0(hm:tx.length<=3000){R:List (Tm×Nat)×RS}{es:List (Tm×Nat)}{k:Nat}{b:Int}(h:PRel (cW tx) k b R.2)(he:R.2.bad=false->es=R.1)(hl:es.length=R.1.length)(hn:es.length<=3001)(hr:r=If (Ls tx (Mu (cW tx) false R))) :
  ∃(k0:Nat) (b0:Int) (li:Nat) (k1:Nat) (b1:Int) (nm1:SV) (t1:Tm) (k2:Nat) (b2:Int) (nm2:SV) (t2:Tm) (ww:By) (kF:Nat) (bF:Int),(∀nm,Cj 48 [prG (cW tx) (Cy (cW tx) k b 2).2.1 (Cy (cW tx) k b 2).2.2 nm] [.gp 0 0] (.ret (.int .i64 li)) [prG (cW tx) k0 b0 nm]) /\
   Cj 50 [prG (cW tx) k0 b0 (nmN es.length)] [.gp 0 0,.int .i64 1] (.ret (.agg true (tv t1))) [prG (cW tx) k1 b1 nm1] /\
   Cj 50 [prG (cW tx) k1 b1 nm1] [.gp 0 0,.int .i64 1] (.ret (.agg true (tv t2))) [prG (cW tx) k2 b2 nm2] /\
   Cj 44 [prG (cW tx) k2 b2 nm2] [.gp 0 0,.int .i64 2] (.ret (.str (bs ww))) [prG (cW tx) kF bF nm2] /\
   ((∃i:Nat,bF=i/\r=[.agg true zx,.int .i64 2,.int .i64 (Pf (cW tx) i)])\/(bF=-1/\(kF<(cW tx).L.length\/0<=Ha tx)/\r=[.agg true zx,.int .i64 2,.int .i64 (Pf (cW tx) kF)]) \/
    (bF=-1/\¬kF<(cW tx).L.length/\¬0<=Ha tx/\r=[.agg true (xqV ⟨es,false,li,t2,t1,zR,zR,zR⟩),.int .i64 0,.int .i64 0])):=by
 obtain⟨hc,s7⟩:=rc_c hm;have hW:=h.want (kd:=2) (by decide);obtain⟨k0,b0,li,g1,g2,_,g4⟩:=Adl hc hW.1;have Pq:∀(w:Nat) (s:RS),(tmP (cW tx) R.1.length w s).2.bad=false->s.bad=false:=fun w s=>nb_T (T:=Bw (cW tx) ((cW tx).L.length+1)) (Ke _) (ns:=Di R.1.length) (w:=w) (s:=s)
 have Po:=fun (w k:Nat) (b:Int) (s:RS) (nm:SV) (hP:PRel (cW tx) k b s) (hq:NmQ nm (Di R.1.length)) (hw:w<=2)=>Adm hc (Af0 tx) ((cW tx).L.length+1) (Di R.1.length) w k b s nm hP hq (by rw[Wv];omega) (fun _=>by omega) hw
 rw[hl];unfold Mu at hr;dsimp only at hr;change ∀(w k:Nat) (b:Int) (s:RS) (nm:SV),_->_->_->∃(k':Nat) (b':Int) (nm':SV) (t:Tm),PRel (cW tx) k' b' (tmP (cW tx) R.1.length w s).2/\NmQ nm' (Di R.1.length)/\((tmP (cW tx) R.1.length w s).2.bad=false->t=(tmP (cW tx) R.1.length w s).1)/\_ at Po;generalize Yf:Fi (cW tx) (Ad (cW tx) R.2 2).2=S0 at *
 obtain⟨k1,b1,nm1,t1,u1,v1,w1,c1⟩:=Po 1 k0 b0 S0.2 (nmN R.1.length) g1 (Ae5 _) (by decide);have z1:=Pq 1 S0.2;generalize hS1:tmP (cW tx) R.1.length 1 S0.2=S1 at *
 obtain⟨k2,b2,nm2,t2,u2,v2,w2,c2⟩:=Po 1 k1 b1 S1.2 nm1 u1 v1 (by decide);have z2:=Pq 1 S1.2;generalize Yg:tmP (cW tx) R.1.length 1 S1.2=S2 at *
 have hF:=u2.want (kd:=2) (by decide);have hcF:=Eg (b:=b2) (nm:=nm2) (G:=[]) hc u2.1 2;have hzF:(Ad (cW tx) S2.2 2).2.bad=false->S2.2.bad=false:=Ej;have zW:(Ad (cW tx) R.2 2).2.bad=false->R.2.bad=false:=Ej;have z0:S0.2.bad=false->(Ad (cW tx) R.2 2).2.bad=false:=fun hx=>by
  rcases Bool.eq_false_or_eq_true (Ad (cW tx) R.2 2).2.bad with hq|hq
  ·rw[<-Yf,Ae8 hq] at hx;exact hx
  ·exact hq
 rw[if_pos rfl] at hr;refine⟨k0,b0,li,k1,b1,nm1,t1,k2,b2,nm2,t2,_,_,_,fun nm=>g4 nm [],c1 [],c2 [],hcF,?_⟩;rcases Ahp (x:=⟨R.1,false,S0.1,S2.1,S1.1,zR,zR,zR⟩) hF.1 with⟨i,e1,e2⟩|⟨e1,_,e3,e4⟩|⟨e1,e2,e3,e4,e5⟩
 ·exact .inl ⟨i,e1,hr.trans e2⟩
 ·exact .inr (.inl ⟨e1,e3,hr.trans e4⟩)
 ·have y2:=hzF e2;have y1:=z2 y2;have y0:=z1 y1;have yW:=z0 y0;rw[he (zW yW),g2 y0,w1 y1,w2 y2];exact .inr (.inr ⟨e1,e3,e4,hr.trans e5⟩)
def tf1(hm:tx.length<=3000){R:List (Tm×Nat)×RS}{es:List (Tm×Nat)}{k:Nat}{b:Int}(h:PRel (cW tx) k b R.2)(he:R.2.bad=false->es=R.1)(hl:es.length=R.1.length)(hn:es.length<=3001)(hr:r=If (Ls tx (Mu (cW tx) true R))) :
  ∃(k0:Nat) (b0:Int) (li:Nat) (k1:Nat) (b1:Int) (nm1:SV) (t1:Tm) (k2:Nat) (b2:Int) (nm2:SV) (t2:Tm) (k3:Nat) (b3:Int) (nm3:SV) (t3:Tm) (k4:Nat) (b4:Int) (nm4:SV) (t4:Tm) (k5:Nat) (b5:Int) (nm5:SV) (t5:Tm) (ww:By) (kF:Nat) (bF:Int),(∀nm,Cj 48 [prG (cW tx) (Cy (cW tx) k b 2).2.1 (Cy (cW tx) k b 2).2.2 nm] [.gp 0 0] (.ret (.int .i64 li)) [prG (cW tx) k0 b0 nm]) /\
   Cj 50 [prG (cW tx) k0 b0 (nmN es.length)] [.gp 0 0,.int .i64 1] (.ret (.agg true (tv t1))) [prG (cW tx) k1 b1 nm1] /\
   Cj 50 [prG (cW tx) k1 b1 nm1] [.gp 0 0,.int .i64 1] (.ret (.agg true (tv t2))) [prG (cW tx) k2 b2 nm2] /\
   Cj 50 [prG (cW tx) k2 b2 nm2] [.gp 0 0,.int .i64 1] (.ret (.agg true (tv t3))) [prG (cW tx) k3 b3 nm3] /\
   Cj 50 [prG (cW tx) k3 b3 nm3] [.gp 0 0,.int .i64 1] (.ret (.agg true (tv t4))) [prG (cW tx) k4 b4 nm4] /\
   Cj 50 [prG (cW tx) k4 b4 nm4] [.gp 0 0,.int .i64 2] (.ret (.agg true (tv t5))) [prG (cW tx) k5 b5 nm5] /\
   Cj 44 [prG (cW tx) k5 b5 nm5] [.gp 0 0,.int .i64 2] (.ret (.str (bs ww))) [prG (cW tx) kF bF nm5] /\
   ((∃i:Nat,bF=i/\r=[.agg true zx,.int .i64 2,.int .i64 (Pf (cW tx) i)])\/(bF=-1/\(kF<(cW tx).L.length\/0<=Ha tx)/\r=[.agg true zx,.int .i64 2,.int .i64 (Pf (cW tx) kF)]) \/
    (bF=-1/\¬kF<(cW tx).L.length/\¬0<=Ha tx/\r=[.agg true (xqV ⟨es,true,li,t1,t2,t3,t4,t5⟩),.int .i64 0,.int .i64 0])):=by
 obtain⟨hc,s7⟩:=rc_c hm;have hW:=h.want (kd:=2) (by decide);obtain⟨k0,b0,li,g1,g2,_,g4⟩:=Adl hc hW.1;have Pq:∀(w:Nat) (s:RS),(tmP (cW tx) R.1.length w s).2.bad=false->s.bad=false:=fun w s=>nb_T (T:=Bw (cW tx) ((cW tx).L.length+1)) (Ke _) (ns:=Di R.1.length) (w:=w) (s:=s)
 have Po:=fun (w k:Nat) (b:Int) (s:RS) (nm:SV) (hP:PRel (cW tx) k b s) (hq:NmQ nm (Di R.1.length)) (hw:w<=2)=>Adm hc (Af0 tx) ((cW tx).L.length+1) (Di R.1.length) w k b s nm hP hq (by rw[Wv];omega) (fun _=>by omega) hw
 rw[hl];unfold Mu at hr;dsimp only at hr;change ∀(w k:Nat) (b:Int) (s:RS) (nm:SV),_->_->_->∃(k':Nat) (b':Int) (nm':SV) (t:Tm),PRel (cW tx) k' b' (tmP (cW tx) R.1.length w s).2/\NmQ nm' (Di R.1.length)/\((tmP (cW tx) R.1.length w s).2.bad=false->t=(tmP (cW tx) R.1.length w s).1)/\_ at Po;generalize Yf:Fi (cW tx) (Ad (cW tx) R.2 2).2=S0 at *
 obtain⟨k1,b1,nm1,t1,u1,v1,w1,c1⟩:=Po 1 k0 b0 S0.2 (nmN R.1.length) g1 (Ae5 _) (by decide);have z1:=Pq 1 S0.2;generalize hS1:tmP (cW tx) R.1.length 1 S0.2=S1 at *
 obtain⟨k2,b2,nm2,t2,u2,v2,w2,c2⟩:=Po 1 k1 b1 S1.2 nm1 u1 v1 (by decide);have z2:=Pq 1 S1.2;generalize Yg:tmP (cW tx) R.1.length 1 S1.2=S2 at *
 obtain⟨k3,b3,nm3,t3,u3,v3,w3,c3⟩:=Po 1 k2 b2 S2.2 nm2 u2 v2 (by decide);have z3:=Pq 1 S2.2;generalize Yh:tmP (cW tx) R.1.length 1 S2.2=S3 at *
 obtain⟨k4,b4,nm4,t4,u4,v4,w4,c4⟩:=Po 1 k3 b3 S3.2 nm3 u3 v3 (by decide);have z4:=Pq 1 S3.2;generalize hS4:tmP (cW tx) R.1.length 1 S3.2=S4 at *
 obtain⟨k5,b5,nm5,t5,u5,v5,w5,c5⟩:=Po 2 k4 b4 S4.2 nm4 u4 v4 (by decide);have z5:=Pq 2 S4.2;generalize hS5:tmP (cW tx) R.1.length 2 S4.2=S5 at *
 have hF:=u5.want (kd:=2) (by decide);have hcF:=Eg (b:=b5) (nm:=nm5) (G:=[]) hc u5.1 2;have hzF:(Ad (cW tx) S5.2 2).2.bad=false->S5.2.bad=false:=Ej;have zW:(Ad (cW tx) R.2 2).2.bad=false->R.2.bad=false:=Ej;have z0:S0.2.bad=false->(Ad (cW tx) R.2 2).2.bad=false:=fun hx=>by
  rcases Bool.eq_false_or_eq_true (Ad (cW tx) R.2 2).2.bad with hq|hq
  ·rw[<-Yf,Ae8 hq] at hx;exact hx
  ·exact hq
 rw[if_neg (by decide)] at hr;refine⟨k0,b0,li,k1,b1,nm1,t1,k2,b2,nm2,t2,k3,b3,nm3,t3,k4,b4,nm4,t4,k5,b5,nm5,t5,_,_,_,fun nm=>g4 nm [],c1 [],c2 [],c3 [],c4 [],c5 [],hcF,?_⟩;rcases Ahp (x:=⟨R.1,true,S0.1,S1.1,S2.1,S3.1,S4.1,S5.1⟩) hF.1 with⟨i,e1,e2⟩|⟨e1,_,e3,e4⟩|⟨e1,e2,e3,e4,e5⟩
 ·exact .inl ⟨i,e1,hr.trans e2⟩
 ·exact .inr (.inl ⟨e1,e3,hr.trans e4⟩)
 ·have y5:=hzF e2;have y4:=z5 y5;have y3:=z4 y4;have y2:=z3 y3;have y1:=z2 y2;have y0:=z1 y1;have yW:=z0 y0;rw[he (zW yW),g2 y0,w1 y1,w2 y2,w3 y3,w4 y4,w5 y5];exact .inr (.inr ⟨e1,e3,e4,hr.trans e5⟩)
end
def eqW:By:=[101,113,117,97,108]
def rpS(tx w:By)(k:Nat)(b:Int)(nm:SV):List (Tm×Nat)->St
 |[]=>⟨(.str (bs tx)::.J::.ref 1 0 0 0::.int .i64 0::.int .i64 0::.dsl 3 ((cW tx).L.map De)::.int .i64 (Ha tx)::.gp 0 0::.str (bs w)::.nils::Cm (Cm (Cm (Cm (Ef (jk8 ([]))))))),[gOb [prG (cW tx) k b nm],⟨true,28,[zx],0,0,true⟩]⟩
 |e::es=>⟨(.str (bs tx)::.J::.ref 1 0 0 0::.int .i64 0::.int .i64 0::.dsl 3 ((cW tx).L.map De)::.int .i64 (Ha tx)::.gp 0 0::.str (bs w)::.osl 3 es.length 0 (es.length+1)::Cm (Cm (Cm (Cm (Ef (jk8 ([]))))))),[gOb [prG (cW tx) k b nm],⟨true,28,[zx],0,0,true⟩,⟨false,6,[Dg e],0,0,true⟩,⟨false,6,(e::es).map Dg,es.length,es.length,true⟩]⟩
def So(tx w:By)(k:Nat)(b:Int)(nm:SV):rpS tx w k b nm []=⟨(.str (bs tx)::.J::.ref 1 0 0 0::.int .i64 0::.int .i64 0::.dsl 3 ((cW tx).L.map De)::.int .i64 (Ha tx)::.gp 0 0::.str (bs w)::.nils::Cm (Cm (Cm (Cm (Ef (jk8 ([]))))))),[gOb [prG (cW tx) k b nm],⟨true,28,[zx],0,0,true⟩]⟩:=rfl
def i7(tx w:By)(k:Nat)(b:Int)(nm:SV)(e:Tm×Nat)(es:List (Tm×Nat)):rpS tx w k b nm (e::es)=⟨(.str (bs tx)::.J::.ref 1 0 0 0::.int .i64 0::.int .i64 0::.dsl 3 ((cW tx).L.map De)::.int .i64 (Ha tx)::.gp 0 0::.str (bs w)::.osl 3 es.length 0 (es.length+1)::Cm (Cm (Cm (Cm (Ef (jk8 ([]))))))),[gOb [prG (cW tx) k b nm],⟨true,28,[zx],0,0,true⟩,⟨false,6,[Dg e],0,0,true⟩,⟨false,6,(e::es).map Dg,es.length,es.length,true⟩]⟩:=rfl
structure RdA where
 es:List (Tm×Nat)
 k:Nat
 b:Int
 nm:SV
 s:RS
def muP(c:RC)(s:RS):Nat:=if s.bad then 0 else c.L.length+1-s.k
structure RdI(c:RC)(R:List (Tm×Nat)×RS)(a:RdA):Prop where
 h:PRel c a.k a.b a.s
 n:a.es.length+muP c a.s<=c.L.length+1
 e:∃(f:Nat) (es':List (Tm×Nat)),muP c a.s<=f/\(a.s.bad=false->a.es=es')/\a.es.length=es'.length/\Hy c f es' a.s=R
abbrev rdC:CT:=Fb Tryz.prog fun _ _=>False
abbrev rdQ(r:List SV):AE->St->Prop:=bk 0 (sq rdC a15_62 (rt [.cell 2 true 28,.t 3,.t 4] (.tup r)))
section
variable{tx w:By}{r:List SV}{R:List (Tm×Nat)×RS}
def A0i(hm:tx.length<=3000){a:RdA}(ha:RdI (cW tx) R a)(hb:a.s.bad=false)(h4:a.s.k<(cW tx).L.length/\((cW tx).tk a.s.k).k=4) :
  vc rdC a15_21 (lw (fun a=>rpS tx w a.k a.b a.nm a.es) (fun a=>muP (cW tx) a.s) (RdI (cW tx) R) a (rdQ r)) (rpS tx w a.k a.b a.nm a.es):=by
 obtain⟨es,k,b,nm,s⟩:=a;obtain⟨h,hn,f,es',hf,he,Jj,hR⟩:=ha;dsimp only at *
 obtain⟨rfl,rfl⟩:=h.good hb;obtain rfl:=he hb;obtain⟨hc,s7⟩:=rc_c hm;have c1:=Ng (k:=s.k) (b:=-1) (nm:=nm) (G:=[]) hc;rw[show Da (cW tx) s.k=4 by unfold Da;rw[if_pos h4.1];exact h4.2] at c1;have e4:((((4:Nat):Nat):Int)==4)=true:=by decide
 have hmu:muP (cW tx) s=(cW tx).L.length+1-s.k:=by unfold muP;rw[hb];rfl
 have Sh:es.length<=3001:=by omega
 have en:Fi (cW tx) s=Af (cW tx) ((cW tx).L.length+1) s:=by unfold Fi;rw[if_neg (fun k=>k.2 h4)]
 obtain⟨k1,b1,i,g1,g2,g3,g4⟩:=Adl hc h;obtain⟨k2,b2,nm2,t,q1,q2,q3,q4⟩:=Adm hc (Af0 tx) ((cW tx).L.length+1) (Di es.length) 1 k1 b1 (Fi (cW tx) s).2 (nmN es.length) g1 (Ae5 _) (by rw[Wv];omega) (fun _=>by omega) (by decide);have Ff:s.k<=(Fi (cW tx) s).2.k:=by rw[en];exact Ei (c:=cW tx) _ s
 have Yj:=Amg (c:=cW tx) (f:=(cW tx).L.length) (ns:=Di es.length) (w:=1) (s:=(Fi (cW tx) s).2);have Pq:=nb_T (T:=Bw (cW tx) ((cW tx).L.length+1)) (Ke _) (ns:=Di es.length) (w:=1) (s:=(Fi (cW tx) s).2);obtain⟨f,rfl⟩:∃g,f=g+1:=⟨f-1,by omega⟩
 rw[Hy,if_pos ⟨hb,h4⟩] at hR;change Hy (cW tx) f (es++[((Bw (cW tx) ((cW tx).L.length+1) (Di es.length) 1 (Fi (cW tx) s).2).1,(Fi (cW tx) s).1)]) (Bw (cW tx) ((cW tx).L.length+1) (Di es.length) 1 (Fi (cW tx) s).2).2=R at hR;generalize Bw (cW tx) ((cW tx).L.length+1) (Di es.length) 1 (Fi (cW tx) s).2=tt at *
 generalize Fi (cW tx) s=ii at *
 have Aje:muP (cW tx) tt.2<muP (cW tx) s:=by
  rw[hmu];unfold muP;rcases Bool.eq_false_or_eq_true tt.2.bad with hq|hq
  ·rw[if_pos hq];omega
  ·rw[if_neg (by rw[hq];decide)];have:=Yj hq;omega
 have hI:RdI (cW tx) R ⟨es++[(t,i)],k2,b2,nm2,tt.2⟩:=by
  refine⟨q1,?_,f,_,?_,fun hx=>?_,?_,hR⟩
  ·dsimp only;rw[q_jr];simp only[q_jk,List.length_nil];omega
  ·dsimp only;omega
  ·dsimp only at hx |-;rw[q3 hx,g2 (Pq hx)]
  ·simp
 have c2:=g4 nm [];have c4:=q4 [];clear hR;cases es with
 |nil=>
  have c3:Con 49 [.int .i64 0] .nils:=Aci (n:=0) (by omega);have c4':Cj 50 [prG (cW tx) k1 b1 .nils] [.gp 0 0,.int .i64 1] (.ret (.agg true (tv t))) [prG (cW tx) k2 b2 nm2]:=c4;rw[So];unfold prG at c1 c2 c4' |-
  repeat' first
  |simp only[go_sem,seval,e4,Rm,Qk,zx,z5,q_km,q_kl]
  |refine Ac c1 ?_
  |refine Ac c2 ?_
  |refine Ag c3 ?_
  |refine Ac c4' ?_
  refine⟨⟨[(t,i)],k2,b2,nm2,tt.2⟩,⟨Aje,hI⟩,?_⟩;dsimp only;rw[i7];unfold prG zx z5;exact Bv (by simp[Bm])
 |cons e es=>
  have hset:∀u v:List SV,((e::es).map Dg++[u]).set (es.length+1) v=(e::es).map Dg++[v]:=fun u v=>by
   rw[List.set_append_right _ _ (by simp),q_g,q_jk,Nat.sub_self,List.set_cons_zero]
  simp only[q_jk] at Sh;have c3:Con 49 [.int .i64 (es.length+1:Nat)] (.dsl 1 (vnR (es.length+1))):=by
   rw[show SV.dsl 1 (vnR (es.length+1))=nmN (es.length+1) from j7 _];exact Aci (by omega)
  have c4':Cj 50 [prG (cW tx) k1 b1 (.dsl 1 (vnR (es.length+1)))] [.gp 0 0,.int .i64 1] (.ret (.agg true (tv t))) [prG (cW tx) k2 b2 nm2]:=by
   rw[show SV.dsl 1 (vnR (es.length+1))=nmN (es.length+1) from j7 _];exact c4
  rw[i7];unfold prG at c1 c2 c4' |-
  repeat' first
  |simp only[go_sem,seval,e4,Rm,Qk,zx,z5,q_km,q_kl]
  |refine Ac c1 ?_
  |refine Ac c2 ?_
  |refine Ag c3 ?_
  |refine Ac c4' ?_
  refine⟨⟨by simp,by omega,by omega⟩,?_⟩;refine⟨⟨e::(es++[(t,i)]),k2,b2,nm2,tt.2⟩,⟨Aje,hI⟩,?_⟩;dsimp only;rw[i7];unfold prG zx z5;simp only[q_h,q_kt,q_i,q_jr,q_jk,List.length_nil,q_g,q_jg,q_km,q_kl];exact Fx 4 (by simp[Bm]) (by simp) (by simp[Dm]) (by simp[gOb,Dm])
def A0g(hm:tx.length<=3000){a:RdA}(ha:RdI (cW tx) R a)(hend:¬(a.s.bad=false/\a.s.k<(cW tx).L.length/\((cW tx).tk a.s.k).k=4))(hr:r=If (Ls tx (Mu (cW tx) (w==eqW) R))) :
  vc rdC a15_21 (lw (fun a=>rpS tx w a.k a.b a.nm a.es) (fun a=>muP (cW tx) a.s) (RdI (cW tx) R) a (rdQ r)) (rpS tx w a.k a.b a.nm a.es):=by
 obtain⟨es,k,b,nm,s⟩:=a;obtain⟨h,hn,f,es',hf,he,Jj,hR⟩:=ha;dsimp only at *
 have hRe:(es',s)=R:=by
  cases f with
  |zero=>exact hR
  |succ f=>rw[Hy,if_neg hend] at hR;exact hR
 subst hRe;obtain⟨hc,s7⟩:=rc_c hm;have Sh:es.length<=3001:=by omega
 have hL:(cW tx).L=(Bi tx).1:=(qc_L tx).1;have c1:=Ng (k:=k) (b:=b) (nm:=nm) (G:=[]) hc;have c5:=Eg (b:=b) (nm:=nmN es.length) (G:=[]) hc h.1 2;have c3:=Aci (n:=es.length) (by omega);have cP:=fun i:Nat=>Ap5 (tx:=tx) (by omega) i
 rw[<-hL] at cP;have Eu:((cW tx).L.length<=140737488355328)=True:=by simp;omega
 have hx:¬b<0\/(b<0/\(((Da (cW tx) k:Nat):Int)==4)=false):=by
  rcases Bool.eq_false_or_eq_true s.bad with hb|hb
  ·have h0:=h.lt0;rw[hb] at h0;exact .inl (fun k=>by simpa using h0.1 k)
  ·obtain⟨rfl,rfl⟩:=h.good hb;refine .inr ⟨by decide,?_⟩;rw[beq_eq_false_iff_ne];intro hk;apply hend;have hk4:Da (cW tx) s.k=4:=by omega
   unfold Da at hk4;split at hk4
   ·exact⟨hb,by assumption,hk4⟩
   ·cases hk4
 cases hw:(w==[101,113,117,97,108])
 ·rw[show (w==eqW)=false from hw] at hr;obtain⟨k0,b0,li,k1,b1,nm1,⟨xq1,yq1,zq1,vq1,lq1⟩,k2,b2,nm2,⟨xq2,yq2,zq2,vq2,lq2⟩,ww,kF,bF,d0,d1,d2,dF,fin⟩:=tf0 hm (R:=(es',s)) h he Jj Sh hr;have d0:=d0 (nmN es.length);generalize Cy (cW tx) k b 2=W5 at *
  obtain⟨w5,k5,b5⟩:=W5;dsimp only at c5 d0;rw[Bp] at d1 d2;clear he Jj hr h hR hend hf hn;cases es with
  |nil=>
   change Con 49 [.int .i64 0] .nils at c3;simp only[List.length_nil,show nmN 0=.nils from rfl] at c5 d0 d1;rw[So];unfold prG at c1 c5 d0 d1 d2 dF |-;rcases hx with hx|⟨hx,e4⟩
   ·repeat' first
    |simp only[go_sem,seval,hw,Eu,zx,z5,q_km,q_kl,q_g,forall_const,hx]
    |refine Ac c5 ?_
    |refine Ag c3 ?_
    |refine Ac d0 ?_
    |refine Ac d1 ?_
    |refine Ac d2 ?_
    rcases fin with⟨i,rfl,rfl⟩|⟨rfl,h2,rfl⟩|⟨rfl,h2,h3,rfl⟩
    ·have Ex:=cP i;have i0:¬((i:Int)<0):=by omega
     have i1:(0:Int)<=(i:Int):=by omega
     repeat' first
     |simp only[go_sem,seval,Eu,zx,z5,q_km,q_kl,q_g,forall_const,i0,i1]
     |refine Ac dF ?_
     |refine Ag Ex ?_
    ·have Ex:=cP kF;have i1:(0:Int)<=(kF:Int):=by omega
     by_cases hk:(kF:Int)<((cW tx).L.length:Int)
     ·repeat' first
      |simp only[go_sem,seval,Eu,zx,z5,q_km,q_kl,q_g,forall_const,i1,hk]
      |refine Ac dF ?_
      |refine Ag Ex ?_
     ·have h4:0<=Ha tx:=h2.resolve_left (by omega)
      repeat' first
      |simp only[go_sem,seval,Eu,zx,z5,q_km,q_kl,q_g,forall_const,i1,hk,h4]
      |refine Ac dF ?_
      |refine Ag Ex ?_
    ·have hk:¬(kF:Int)<((cW tx).L.length:Int):=by omega
     repeat' first
     |simp (config:={ maxSteps:=4000000 }) only[go_sem,seval,Eu,zx,z5,q_km,q_kl,q_g,forall_const,hk,h3,xqV,Ft,Bp,q_h,q_jk,if_true,if_false,q_l,Dz,List.take_succ_cons,List.take_zero,List.drop_succ_cons,List.drop_zero]
     |refine Ac dF ?_
     all_goals first|exact⟨rfl,rfl⟩|rfl|rw[q_js (by simp)]
   ·repeat' first
    |simp only[go_sem,seval,hw,Eu,zx,z5,q_km,q_kl,q_g,forall_const,hx,e4]
    |refine Ac c1 ?_
    |refine Ac c5 ?_
    |refine Ag c3 ?_
    |refine Ac d0 ?_
    |refine Ac d1 ?_
    |refine Ac d2 ?_
    rcases fin with⟨i,rfl,rfl⟩|⟨rfl,h2,rfl⟩|⟨rfl,h2,h3,rfl⟩
    ·have Ex:=cP i;have i0:¬((i:Int)<0):=by omega
     have i1:(0:Int)<=(i:Int):=by omega
     repeat' first
     |simp only[go_sem,seval,Eu,zx,z5,q_km,q_kl,q_g,forall_const,i0,i1]
     |refine Ac dF ?_
     |refine Ag Ex ?_
    ·have Ex:=cP kF;have i1:(0:Int)<=(kF:Int):=by omega
     by_cases hk:(kF:Int)<((cW tx).L.length:Int)
     ·repeat' first
      |simp only[go_sem,seval,Eu,zx,z5,q_km,q_kl,q_g,forall_const,i1,hk]
      |refine Ac dF ?_
      |refine Ag Ex ?_
     ·have h4:0<=Ha tx:=h2.resolve_left (by omega)
      repeat' first
      |simp only[go_sem,seval,Eu,zx,z5,q_km,q_kl,q_g,forall_const,i1,hk,h4]
      |refine Ac dF ?_
      |refine Ag Ex ?_
    ·have hk:¬(kF:Int)<((cW tx).L.length:Int):=by omega
     repeat' first
     |simp (config:={ maxSteps:=4000000 }) only[go_sem,seval,Eu,zx,z5,q_km,q_kl,q_g,forall_const,hk,h3,xqV,Ft,Bp,q_h,q_jk,if_true,if_false,q_l,Dz,List.take_succ_cons,List.take_zero,List.drop_succ_cons,List.drop_zero]
     |refine Ac dF ?_
     all_goals first|exact⟨rfl,rfl⟩|rfl|rw[q_js (by simp)]
  |cons e es=>
   simp only[q_jk] at c3 c5 d0 d1 Sh;rw[show nmN (es.length+1)=.dsl 1 (vnR (es.length+1)) from (j7 _).symm] at c3 c5 d0 d1;rw[i7];unfold prG at c1 c5 d0 d1 d2 dF |-;rcases hx with hx|⟨hx,e4⟩
   ·repeat' first
    |simp only[go_sem,seval,hw,Eu,zx,z5,q_km,q_kl,q_g,forall_const,hx]
    |refine Ac c5 ?_
    |refine Ag c3 ?_
    |refine Ac d0 ?_
    |refine Ac d1 ?_
    |refine Ac d2 ?_
    rcases fin with⟨i,rfl,rfl⟩|⟨rfl,h2,rfl⟩|⟨rfl,h2,h3,rfl⟩
    ·have Ex:=cP i;have i0:¬((i:Int)<0):=by omega
     have i1:(0:Int)<=(i:Int):=by omega
     repeat' first
     |simp only[go_sem,seval,Eu,zx,z5,q_km,q_kl,q_g,forall_const,i0,i1]
     |refine Ac dF ?_
     |refine Ag Ex ?_
    ·have Ex:=cP kF;have i1:(0:Int)<=(kF:Int):=by omega
     by_cases hk:(kF:Int)<((cW tx).L.length:Int)
     ·repeat' first
      |simp only[go_sem,seval,Eu,zx,z5,q_km,q_kl,q_g,forall_const,i1,hk]
      |refine Ac dF ?_
      |refine Ag Ex ?_
     ·have h4:0<=Ha tx:=h2.resolve_left (by omega)
      repeat' first
      |simp only[go_sem,seval,Eu,zx,z5,q_km,q_kl,q_g,forall_const,i1,hk,h4]
      |refine Ac dF ?_
      |refine Ag Ex ?_
    ·have hk:¬(kF:Int)<((cW tx).L.length:Int):=by omega
     repeat' first
     |simp (config:={ maxSteps:=4000000 }) only[go_sem,seval,Eu,zx,z5,q_km,q_kl,q_g,forall_const,hk,h3,xqV,Ft,Bp,q_h,q_jk,if_true,if_false,q_l,Dz,List.take_succ_cons,List.take_zero,List.drop_succ_cons,List.drop_zero]
     |refine Ac dF ?_
     all_goals first|exact⟨rfl,rfl⟩|rfl|rw[q_js (by simp)]
   ·repeat' first
    |simp only[go_sem,seval,hw,Eu,zx,z5,q_km,q_kl,q_g,forall_const,hx,e4]
    |refine Ac c1 ?_
    |refine Ac c5 ?_
    |refine Ag c3 ?_
    |refine Ac d0 ?_
    |refine Ac d1 ?_
    |refine Ac d2 ?_
    rcases fin with⟨i,rfl,rfl⟩|⟨rfl,h2,rfl⟩|⟨rfl,h2,h3,rfl⟩
    ·have Ex:=cP i;have i0:¬((i:Int)<0):=by omega
     have i1:(0:Int)<=(i:Int):=by omega
     repeat' first
     |simp only[go_sem,seval,Eu,zx,z5,q_km,q_kl,q_g,forall_const,i0,i1]
     |refine Ac dF ?_
     |refine Ag Ex ?_
    ·have Ex:=cP kF;have i1:(0:Int)<=(kF:Int):=by omega
     by_cases hk:(kF:Int)<((cW tx).L.length:Int)
     ·repeat' first
      |simp only[go_sem,seval,Eu,zx,z5,q_km,q_kl,q_g,forall_const,i1,hk]
      |refine Ac dF ?_
      |refine Ag Ex ?_
     ·have h4:0<=Ha tx:=h2.resolve_left (by omega)
      repeat' first
      |simp only[go_sem,seval,Eu,zx,z5,q_km,q_kl,q_g,forall_const,i1,hk,h4]
      |refine Ac dF ?_
      |refine Ag Ex ?_
    ·have hk:¬(kF:Int)<((cW tx).L.length:Int):=by omega
     repeat' first
     |simp (config:={ maxSteps:=4000000 }) only[go_sem,seval,Eu,zx,z5,q_km,q_kl,q_g,forall_const,hk,h3,xqV,Ft,Bp,q_h,q_jk,if_true,if_false,q_l,Dz,List.take_succ_cons,List.take_zero,List.drop_succ_cons,List.drop_zero]
     |refine Ac dF ?_
     all_goals first|exact⟨rfl,rfl⟩|rfl|rw[q_js (by simp)]
 ·rw[show (w==eqW)=true from hw] at hr;obtain⟨k0,b0,li,k1,b1,nm1,⟨xq1,yq1,zq1,vq1,lq1⟩,k2,b2,nm2,⟨xq2,yq2,zq2,vq2,lq2⟩,k3,b3,nm3,⟨xq3,yq3,zq3,vq3,lq3⟩,k4,b4,nm4,⟨xq4,yq4,zq4,vq4,lq4⟩,k5,b5,nm5,⟨xq5,yq5,zq5,vq5,lq5⟩,ww,kF,bF,d0,d1,d2,d3,d4,d5,dF,fin⟩:=tf1 hm (R:=(es',s)) h he Jj Sh hr;have d0:=d0 (nmN es.length);generalize Cy (cW tx) k b 2=W5 at *
  obtain⟨w5,k5,b5⟩:=W5;dsimp only at c5 d0;rw[Bp] at d1 d2 d3 d4 d5;clear he Jj hr h hR hend hf hn;cases es with
  |nil=>
   change Con 49 [.int .i64 0] .nils at c3;simp only[List.length_nil,show nmN 0=.nils from rfl] at c5 d0 d1;rw[So];unfold prG at c1 c5 d0 d1 d2 d3 d4 d5 dF |-;rcases hx with hx|⟨hx,e4⟩
   ·repeat' first
    |simp only[go_sem,seval,hw,Eu,zx,z5,q_km,q_kl,q_g,forall_const,hx]
    |refine Ac c5 ?_
    |refine Ag c3 ?_
    |refine Ac d0 ?_
    |refine Ac d1 ?_
    |refine Ac d2 ?_
    |refine Ac d3 ?_
    |refine Ac d4 ?_
    |refine Ac d5 ?_
    rcases fin with⟨i,rfl,rfl⟩|⟨rfl,h2,rfl⟩|⟨rfl,h2,h3,rfl⟩
    ·have Ex:=cP i;have i0:¬((i:Int)<0):=by omega
     have i1:(0:Int)<=(i:Int):=by omega
     repeat' first
     |simp only[go_sem,seval,Eu,zx,z5,q_km,q_kl,q_g,forall_const,i0,i1]
     |refine Ac dF ?_
     |refine Ag Ex ?_
    ·have Ex:=cP kF;have i1:(0:Int)<=(kF:Int):=by omega
     by_cases hk:(kF:Int)<((cW tx).L.length:Int)
     ·repeat' first
      |simp only[go_sem,seval,Eu,zx,z5,q_km,q_kl,q_g,forall_const,i1,hk]
      |refine Ac dF ?_
      |refine Ag Ex ?_
     ·have h4:0<=Ha tx:=h2.resolve_left (by omega)
      repeat' first
      |simp only[go_sem,seval,Eu,zx,z5,q_km,q_kl,q_g,forall_const,i1,hk,h4]
      |refine Ac dF ?_
      |refine Ag Ex ?_
    ·have hk:¬(kF:Int)<((cW tx).L.length:Int):=by omega
     repeat' first
     |simp (config:={ maxSteps:=4000000 }) only[go_sem,seval,Eu,zx,z5,q_km,q_kl,q_g,forall_const,hk,h3,xqV,Ft,Bp,q_h,q_jk,if_true,if_false,q_l,Dz,List.take_succ_cons,List.take_zero,List.drop_succ_cons,List.drop_zero]
     |refine Ac dF ?_
     all_goals first|exact⟨rfl,rfl⟩|rfl|rw[q_js (by simp)]
   ·repeat' first
    |simp only[go_sem,seval,hw,Eu,zx,z5,q_km,q_kl,q_g,forall_const,hx,e4]
    |refine Ac c1 ?_
    |refine Ac c5 ?_
    |refine Ag c3 ?_
    |refine Ac d0 ?_
    |refine Ac d1 ?_
    |refine Ac d2 ?_
    |refine Ac d3 ?_
    |refine Ac d4 ?_
    |refine Ac d5 ?_
    rcases fin with⟨i,rfl,rfl⟩|⟨rfl,h2,rfl⟩|⟨rfl,h2,h3,rfl⟩
    ·have Ex:=cP i;have i0:¬((i:Int)<0):=by omega
     have i1:(0:Int)<=(i:Int):=by omega
     repeat' first
     |simp only[go_sem,seval,Eu,zx,z5,q_km,q_kl,q_g,forall_const,i0,i1]
     |refine Ac dF ?_
     |refine Ag Ex ?_
    ·have Ex:=cP kF;have i1:(0:Int)<=(kF:Int):=by omega
     by_cases hk:(kF:Int)<((cW tx).L.length:Int)
     ·repeat' first
      |simp only[go_sem,seval,Eu,zx,z5,q_km,q_kl,q_g,forall_const,i1,hk]
      |refine Ac dF ?_
      |refine Ag Ex ?_
     ·have h4:0<=Ha tx:=h2.resolve_left (by omega)
      repeat' first
      |simp only[go_sem,seval,Eu,zx,z5,q_km,q_kl,q_g,forall_const,i1,hk,h4]
      |refine Ac dF ?_
      |refine Ag Ex ?_
    ·have hk:¬(kF:Int)<((cW tx).L.length:Int):=by omega
     repeat' first
     |simp (config:={ maxSteps:=4000000 }) only[go_sem,seval,Eu,zx,z5,q_km,q_kl,q_g,forall_const,hk,h3,xqV,Ft,Bp,q_h,q_jk,if_true,if_false,q_l,Dz,List.take_succ_cons,List.take_zero,List.drop_succ_cons,List.drop_zero]
     |refine Ac dF ?_
     all_goals first|exact⟨rfl,rfl⟩|rfl|rw[q_js (by simp)]
  |cons e es=>
   simp only[q_jk] at c3 c5 d0 d1 Sh;rw[show nmN (es.length+1)=.dsl 1 (vnR (es.length+1)) from (j7 _).symm] at c3 c5 d0 d1;rw[i7];unfold prG at c1 c5 d0 d1 d2 d3 d4 d5 dF |-;rcases hx with hx|⟨hx,e4⟩
   ·repeat' first
    |simp only[go_sem,seval,hw,Eu,zx,z5,q_km,q_kl,q_g,forall_const,hx]
    |refine Ac c5 ?_
    |refine Ag c3 ?_
    |refine Ac d0 ?_
    |refine Ac d1 ?_
    |refine Ac d2 ?_
    |refine Ac d3 ?_
    |refine Ac d4 ?_
    |refine Ac d5 ?_
    rcases fin with⟨i,rfl,rfl⟩|⟨rfl,h2,rfl⟩|⟨rfl,h2,h3,rfl⟩
    ·have Ex:=cP i;have i0:¬((i:Int)<0):=by omega
     have i1:(0:Int)<=(i:Int):=by omega
     repeat' first
     |simp only[go_sem,seval,Eu,zx,z5,q_km,q_kl,q_g,forall_const,i0,i1]
     |refine Ac dF ?_
     |refine Ag Ex ?_
    ·have Ex:=cP kF;have i1:(0:Int)<=(kF:Int):=by omega
     by_cases hk:(kF:Int)<((cW tx).L.length:Int)
     ·repeat' first
      |simp only[go_sem,seval,Eu,zx,z5,q_km,q_kl,q_g,forall_const,i1,hk]
      |refine Ac dF ?_
      |refine Ag Ex ?_
     ·have h4:0<=Ha tx:=h2.resolve_left (by omega)
      repeat' first
      |simp only[go_sem,seval,Eu,zx,z5,q_km,q_kl,q_g,forall_const,i1,hk,h4]
      |refine Ac dF ?_
      |refine Ag Ex ?_
    ·have hk:¬(kF:Int)<((cW tx).L.length:Int):=by omega
     repeat' first
     |simp (config:={ maxSteps:=4000000 }) only[go_sem,seval,Eu,zx,z5,q_km,q_kl,q_g,forall_const,hk,h3,xqV,Ft,Bp,q_h,q_jk,if_true,if_false,q_l,Dz,List.take_succ_cons,List.take_zero,List.drop_succ_cons,List.drop_zero]
     |refine Ac dF ?_
     all_goals first|exact⟨rfl,rfl⟩|rfl|rw[q_js (by simp)]
   ·repeat' first
    |simp only[go_sem,seval,hw,Eu,zx,z5,q_km,q_kl,q_g,forall_const,hx,e4]
    |refine Ac c1 ?_
    |refine Ac c5 ?_
    |refine Ag c3 ?_
    |refine Ac d0 ?_
    |refine Ac d1 ?_
    |refine Ac d2 ?_
    |refine Ac d3 ?_
    |refine Ac d4 ?_
    |refine Ac d5 ?_
    rcases fin with⟨i,rfl,rfl⟩|⟨rfl,h2,rfl⟩|⟨rfl,h2,h3,rfl⟩
    ·have Ex:=cP i;have i0:¬((i:Int)<0):=by omega
     have i1:(0:Int)<=(i:Int):=by omega
     repeat' first
     |simp only[go_sem,seval,Eu,zx,z5,q_km,q_kl,q_g,forall_const,i0,i1]
     |refine Ac dF ?_
     |refine Ag Ex ?_
    ·have Ex:=cP kF;have i1:(0:Int)<=(kF:Int):=by omega
     by_cases hk:(kF:Int)<((cW tx).L.length:Int)
     ·repeat' first
      |simp only[go_sem,seval,Eu,zx,z5,q_km,q_kl,q_g,forall_const,i1,hk]
      |refine Ac dF ?_
      |refine Ag Ex ?_
     ·have h4:0<=Ha tx:=h2.resolve_left (by omega)
      repeat' first
      |simp only[go_sem,seval,Eu,zx,z5,q_km,q_kl,q_g,forall_const,i1,hk,h4]
      |refine Ac dF ?_
      |refine Ag Ex ?_
    ·have hk:¬(kF:Int)<((cW tx).L.length:Int):=by omega
     repeat' first
     |simp (config:={ maxSteps:=4000000 }) only[go_sem,seval,Eu,zx,z5,q_km,q_kl,q_g,forall_const,hk,h3,xqV,Ft,Bp,q_h,q_jk,if_true,if_false,q_l,Dz,List.take_succ_cons,List.take_zero,List.drop_succ_cons,List.drop_zero]
     |refine Ac dF ?_
     all_goals first|exact⟨rfl,rfl⟩|rfl|rw[q_js (by simp)]
end
def A0h{tx w:By}{r:List SV}{R:List (Tm×Nat)×RS}{k:Nat}{b:Int}{nm:SV}{s:RS}{st:St}(hm:tx.length<=3000)(h:PRel (cW tx) k b s)(hR:Hy (cW tx) ((cW tx).L.length+1) [] s=R)(hr:r=If (Ls tx (Mu (cW tx) (w==eqW) R)))(hs:Wk st (rpS tx w k b nm [])) :
  vc rdC (.loop a15_21) (rdQ r) st:=by
 refine Hv (fun a:RdA=>rpS tx w a.k a.b a.nm a.es) (fun a=>muP (cW tx) a.s) (RdI (cW tx) R) (fun a ha=>?_) ⟨[],k,b,nm,s⟩ ?_ hs
 ·by_cases hgo:a.s.bad=false/\a.s.k<(cW tx).L.length/\((cW tx).tk a.s.k).k=4
  ·exact A0i hm ha hgo.1 hgo.2
  ·exact A0g hm ha hgo hr
 ·have hmu:muP (cW tx) s<=(cW tx).L.length+1:=by unfold muP;split<;>omega
  exact⟨h,by simpa using hmu,(cW tx).L.length+1,[],hmu,fun _=>rfl,rfl,hR⟩
def Aqa{tx:By}(hm:tx.length<=3000):Con 15 [.str (bs tx)] (.tup (If (Rc tx))):=by
 have Fy:∀x∈[SV.str (bs tx)],NoG x:=fun x hx=>by
  simp only[q_kh] at hx;subst hx;exact .str _
 refine o5 mixed Tryz.func15 tr15 Fy (Ak9 _) ?_;clear Fy;obtain⟨hc,s7⟩:=rc_c hm;have hL:(cW tx).L=(Bi tx).1:=(qc_L tx).1;have c0:=Aqg (l:=tx) (by omega);rw[<-hL] at c0;have h0:PRel (cW tx) 0 (-1) ⟨0,false,0,[]⟩:=⟨Nat.zero_le _,rfl,rfl⟩
 have u9:=h0.want (kd:=1) (by decide);have cW1:=Eg (b:=-1) (nm:=.nils) (G:=[]) hc h0.1 1;have Ff:(Cy (cW tx) 0 (-1) 1).2.1<=(cW tx).L.length:=by
  unfold Cy;rw[if_pos (show (-1:Int)<0 by decide)]
  by_cases hk:Da (cW tx) 0=1
  ·rw[if_pos hk];unfold Da at hk;split at hk
   ·show 0+1<=_;omega
   ·cases hk
  ·rw[if_neg hk];exact Nat.zero_le _
 obtain⟨u9,_⟩:=u9;generalize Cy (cW tx) 0 (-1) 1=W1 at *
 obtain⟨w1,k1,b1⟩:=W1;dsimp only at u9 Ff cW1;have hH:=Az7 u9 Ff;have cWd:=Vx (k:=k1) (b:=b1) (nm:=.nils) (G:=[]) hc;have cK:=Ng (k:=k1) (b:=b1) (nm:=.nils) (G:=[]) hc;have cF:=Qs (c:=cW tx) (k:=k1) (b:=b1) (nm:=.nils) (G:=[]) k1;obtain⟨hH1,Vt⟩:=hH;rw[Aup (eq:=Er (cW tx) k1==eqW) Vt];have cW2:=fun b2:Int=>Eg (k:=k1+1) (b:=b2) (nm:=.nils) (G:=[]) hc (by omega) 1
 have hgo:=hH1.want (kd:=1) (by decide);obtain⟨hgo,_⟩:=hgo;have hw1:IntKind.i64.wrap ((k1:Int)+1)=((k1+1:Nat):Int):=by rw[w64 (by unfold fit;omega)];omega
 generalize Gu (cW tx) (Ad (cW tx) ⟨0,false,0,[]⟩ 1).2=hd at *
 have fin:=fun (nm:SV) (st:St)=>A0h (w:=Er (cW tx) k1) (nm:=nm) (st:=st) hm hgo rfl rfl
 generalize If (Ls tx (Mu (cW tx) (Er (cW tx) k1==eqW) (Hy (cW tx) ((cW tx).L.length+1) [] (Ad (cW tx) hd.2 1).2)))=r at *
 clear hgo hH1 Vt;generalize Er (cW tx) k1=w at *
 have hi:(cW tx).i=0/\(cW tx).j=0:=⟨rfl,rfl⟩
 by_cases hb:b1<0
 ·rw[if_pos hb] at fin;have eF:Fk b1 k1=k1:=by unfold Fk;rw[if_pos hb]
  rw[eF] at cF
  by_cases h3:Da (cW tx) k1=3
  ·have e3:(((Da (cW tx) k1:Nat):Int) != 3)=false:=by rw[h3];decide
   by_cases ht:w=[116,101,114,109]
   ·have v1:(w==[116,101,114,109])=true:=by rw[ht];decide
    rw[if_pos ⟨h3,.inl ht⟩] at fin;have cW2:=cW2 (b1);unfold prG at cW1 cWd cK cF cW2;simp only[hi.1,hi.2] at cW1 cWd cK cF cW2
    repeat' first
    |simp only[go_sem,seval,hb,e3,v1,hw1]
    |refine Ag c0 ?_
    |refine Ac cW1 ?_
    |refine Ac cWd ?_
    |refine Ac cK ?_
    |refine Ac cF ?_
    |refine Ac cW2 ?_
    refine fin .nils _ ?_;rw[So];unfold prG zx z5;exact Bv (by simp[Bm])
   ·have v1:(w==[116,101,114,109])=false:=by simpa using ht
    by_cases hq:w=[101,113,117,97,108]
    ·have v2:(w==[101,113,117,97,108])=true:=by rw[hq];decide
     rw[if_pos ⟨h3,.inr hq⟩] at fin;have cW2:=cW2 (b1);unfold prG at cW1 cWd cK cF cW2;simp only[hi.1,hi.2] at cW1 cWd cK cF cW2
     repeat' first
     |simp only[go_sem,seval,hb,e3,v1,v2,hw1]
     |refine Ag c0 ?_
     |refine Ac cW1 ?_
     |refine Ac cWd ?_
     |refine Ac cK ?_
     |refine Ac cF ?_
     |refine Ac cW2 ?_
     refine fin .nils _ ?_;rw[So];unfold prG zx z5;exact Bv (by simp[Bm])
    ·have v2:(w==[101,113,117,97,108])=false:=by simpa using hq
     rw[if_neg (show ¬(Da (cW tx) k1=3/\(w=[116,101,114,109]\/w=[101,113,117,97,108])) from fun h=>h.2.elim ht hq)] at fin;have cW2:=cW2 (k1);unfold prG at cW1 cWd cK cF cW2;simp only[hi.1,hi.2] at cW1 cWd cK cF cW2
     repeat' first
     |simp only[go_sem,seval,hb,e3,v1,v2,hw1]
     |refine Ag c0 ?_
     |refine Ac cW1 ?_
     |refine Ac cWd ?_
     |refine Ac cK ?_
     |refine Ac cF ?_
     |refine Ac cW2 ?_
     refine fin .nils _ ?_;rw[So];unfold prG zx z5;exact Bv (by simp[Bm])
  ·have e3:(((Da (cW tx) k1:Nat):Int) != 3)=true:=by simp;omega
   rw[if_neg (show ¬(Da (cW tx) k1=3/\(w=[116,101,114,109]\/w=[101,113,117,97,108])) from fun h=>h3 h.1)] at fin;have cW2:=cW2 (k1);unfold prG at cW1 cWd cK cF cW2;simp only[hi.1,hi.2] at cW1 cWd cK cF cW2
   repeat' first
   |simp only[go_sem,seval,hb,e3,hw1]
   |refine Ag c0 ?_
   |refine Ac cW1 ?_
   |refine Ac cWd ?_
   |refine Ac cK ?_
   |refine Ac cF ?_
   |refine Ac cW2 ?_
   refine fin .nils _ ?_;rw[So];unfold prG zx z5;exact Bv (by simp[Bm])
 ·rw[if_neg hb] at fin;have cW2:=cW2 (b1);unfold prG at cW1 cWd cK cF cW2;simp only[hi.1,hi.2] at cW1 cWd cK cF cW2
  repeat' first
  |simp only[go_sem,seval,hb,hw1]
  |refine Ag c0 ?_
  |refine Ac cW1 ?_
  |refine Ac cWd ?_
  |refine Ac cK ?_
  |refine Ac cF ?_
  |refine Ac cW2 ?_
  refine fin .nils _ ?_;rw[So];unfold prG zx z5;exact Bv (by simp[Bm])
def Aqb(tx:By):Con 4 [.str (bs tx)] (.bool true):=Aqc tx Aqa
def A3g{P:Program}{t:TypeId}{ts:List TypeId}{args:List SV}(h:Sw P (t::ts) args):∃x xs,args=x::xs/\Sv P t x/\Sw P ts xs:=by
 cases args with
 |nil=>exact h.elim
 |cons x xs=>exact⟨x,xs,rfl,h.1,h.2⟩
def A3h{P:Program}{args:List SV}(h:Sw P [] args):args=[]:=by
 cases args with
 |nil=>rfl
 |cons x xs=>exact h.elim
def own:ownKnob Tryz.prog.godebug=none:=by kernel_rfl
def laid:laidOutB Tryz.prog=true:=by kernel_rfl
def A3j{P:Program}{w:World}{fuel:Nat}{t e:TypeId}{n:Nat}{cs:List Value}{d:DataW Unit}{p:List MemPlace}{base:Nat}{spare:Nat->Bool}{Sa:Bool}{enc:TypeId×Value->Unit}(ht:P.underlying t=some (.array n e))(he:P.underlying e=some (.int .u64))(hc:P.cellsOf e=1)(hct:P.cellsOf t=n)
  (l:List Int) (hn:l.length=n) (hd:d=.agg (l.map fun z=>.lit (.int .u64 z))) (h:DataW.trod enc P w base spare Sa fuel t cs=some (d,p)):cs=l.map (Value.int .u64):=by
 obtain⟨xs,m,rfl,hx,hl,Gh,Gb⟩:=DataW.trod_array ht h;rw[hd] at hx;simp only[Prod.mk.injEq,DataW.agg.injEq] at hx;obtain⟨hx,_⟩:=hx;refine List.ext_getElem (by rw[hl,hct,q_g,hn]) (fun i h1 h2=>?_);have hi:i<n:=by rw[q_g] at h2;omega
 have hxi:i<xs.length:=by omega
 have h3:=Gb i hi;rw[hc,q_f hxi] at h3;obtain⟨z,e1,e2,_⟩:=DataW.trod_int he h3;have h4:(l.map fun z=>(DataW.lit (.int .u64 z):DataW Unit))[i]?=(xs.map (·.1))[i]?:=by rw[hx]
 rw[q_ji,q_ji,q_f hxi,q_f (by omega:i<l.length),e2] at h4;simp only[q_jh,q_b,DataW.lit.injEq,Lit.int.injEq,true_and] at h4;have h5:(List.take 1 (cs.drop (i*1)))[0]?=some (.int .u64 z):=by rw[e1];rfl
 rw[q_jx,q_kj] at h5;simp only[Nat.mul_one,q_jp] at h5;rw[if_pos (by decide),q_f h1] at h5;rw[Option.some.inj h5,List.getElem_map,h4]
def A3i{svs:List SV}(h:Jr Tryz.prog 9 svs):∃l:List UInt8,svs=[.str (bs l)]:=by
 have hu:Tryz.prog.underlying 9=some .string:=by kernel_rfl
 cases h with
 |float _ k b h1 _=>rw[hu] at h1;cases h1
 |bool _ _ h1=>rw[hu] at h1;cases h1
 |int _ _ _ h1=>rw[hu] at h1;cases h1
 |str _ s h1=>exact⟨s.data.toList,rfl⟩
 |slice _ _ _ h1=>rw[hu] at h1;cases h1
 |struct _ _ _ h1=>rw[hu] at h1;cases h1
def Anq{x:SV}(h:Sv Tryz.prog 9 x):∃l:List UInt8,x=.str (bs l):=by
 cases h with
 |agg svs h1 _=>have e:Hs Tryz.prog 9=some false:=by kernel_rfl
                rw[e] at h1;cases h1
 |one x _ h2=>
  obtain⟨l,e⟩:=A3i h2;cases e;exact⟨l,rfl⟩
def A2e{w:World}(h:laidMetH Tryz.prog Rows.resultReadRow.laid w):∀b,Abh=some b->l6 b w:=by
 intro b hb;cases hb;rw[MakeChecks.laidMetH_plain _ _ _ (by kernel_rfl)] at h;obtain⟨ps,h,hnd,hcell⟩:=h;obtain⟨g0,t0,cs0,f0,p0,q0,_,_,_,_,h,e0⟩:=h;obtain⟨g1,t1,cs1,f1,p1,q1,_,_,_,_,h,e1⟩:=h;obtain⟨g2,t2,cs2,f2,p2,q2,Iy,Li,Px,Rz,_,e2⟩:=h;have hg:Tryz.prog.globalNamed "internal/strconv.uint64pow10"=some 0:=by kernel_rfl
 have e:=hg.symm.trans Iy;cases e;have ht:(Tryz.prog.globals[0]?).map (·.type)=some 208:=by kernel_rfl
 have e:=ht.symm.trans Li;cases e;unfold World.var? at Px;rw[hg,Option.bind_some] at Px;have hl:=A3j (l:=(List.range 20).map fun i=>((10 ^ i:Nat):Int)) (show Tryz.prog.underlying 208=some (.array 20 92) by kernel_rfl) (by kernel_rfl) (by kernel_rfl) (by kernel_rfl) (by simp) (by kernel_rfl) Rz;rw[List.map_map] at hl;split at Px
 ·rename_i cs e f hh;cases Px;refine⟨e,f,?_⟩;rw[hh];congr 2;exact Array.toList_inj.1 hl
 ·cases Px
open Go Go.RowKit
def Aw9{H:Type}{enc:TypeId×Value->H}{C:Checked}{os:Os}{f:FuncId}{fn:Func}{s:ChangeSpec}{S:List TypeId}{tb:TypeId}{apart fresh handsOn:Bool}{X:World->Array Value->Prop}(hT:∀w args,X w args->∀b,Abh=some b->(l6 b w))(hX:∀(w w':World) (args:Array Value),w.heap=w'.heap->X w args->X w' args)(own:ownKnob C.prog.godebug=none)(started:os.Started)(noInit:C.prog.inits.idxOf? f=none)
  (Kz:C.prog.funcs[f]?=some fn) (Ajy:s.vars=[])
  (witness:∃(w:World) (tape:Tape) (i:Input),w.os=os/\(w.forCall tape i).Shaped C.prog/\i.vars=[]/\Input.okWide C.prog (w.forCall tape i) .any w.heap.size f i /\
   ((s.pre enc C.prog fn [] apart (w.forCall tape i).memory i.args/\X (w.forCall tape i).memory i.args)/\sizedMet enc C.prog fn (OpenSpec.ofChange s) apart (w.forCall tape i).memory i.args)/\({}:Assume).holds C.prog (lone (Frame.enter C.prog f i.args .normal) [] (w.forCall tape i)))
  (hs:∀ds:List (DataW H),ds.length=fn.params.size->s.fn H ds={ results:=[.lit (.bool true)],args:=ds }) (Aea:fn.resultTypes=#[tb]) (Zh:C.prog.underlying tb=some .bool)
  (hS:Vo C.prog S=true) (hpar:∀t∈fn.params.toList,t∈S) (hlaid:laidOutB C.prog=true) (hread:∀t∈fn.params.toList,C.prog.readableRec t=true/\t<C.prog.types.size)
  (law:∀args:List SV,Sw C.prog fn.params.toList args->Contract C.prog f args (.bool true)) :
  ReturnsInHanded {} C os f .any (fun w args=>(s.pre enc C.prog fn [] apart w args/\X w args)/\sizedMet enc C.prog fn (OpenSpec.ofChange s) apart w args) (s.post enc C.prog fn apart fresh handsOn false):=by
 refine returnsInHanded_of_change_and (C:=C) (X:=X) hX own started noInit Kz witness ?_;intro W base args ds gs before Gq hW _ Cv hx _;have hW':=hW;have Am:∀x∈before,x.block<W.heap.size:=fun x hx=>hW'.lt x hx
 obtain⟨p,q,hA,hV,rfl,Tp,hnd⟩:=hW;rw[Ajy] at hV;have hgs:gs=[]/\q=[]:=by
  cases gs with
  |nil=>exact⟨rfl,hV⟩
  |cons g gs=>exact hV.elim
 obtain⟨rfl,rfl⟩:=hgs;have Lj:∀n∈DataW.weightsEach C.prog fn.params.toList ds,n<=reachBytes:=by
  intro n hn;have:=List.all_eq_true.1 Cv n (A4g hn);simpa using this
 have w8:ds.length=fn.params.size:=by
  have:=(trodAll_length hA).2;simpa using this
 obtain⟨xs,a1,a2,a3⟩:=Anr hS hpar (fun j t v ht hv=>Gq j t v (by simpa using ht) (by simpa using hv)) Lj hA;have hc:=law xs a1 (Nr W) W args.toList ⟨fun b j v h=>h,fun b h=>h.elim,fun b hb=>by
  obtain⟨e,f,h⟩:=hT _ _ hx b hb;exact⟨⟨e,f,h⟩,Value.int .u64 ((10 ^ 0:Nat):Int),(show W.cell? ⟨b,0,none⟩=_ by unfold World.cell?;rw[h];rfl)⟩⟩ a2.symm a3
 refine Calls.mono hc (fun e W' he=>?_);obtain⟨v,m',rfl,k1,k2,k3,k4,k5,k6,k7,k8,k9⟩:=he;cases k1;have hb:Below W.heap.size W W':=⟨k5,k6,k7,k8,k9⟩
 refine⟨_,rfl,ds,[],p++[],[],p,[],hW',?_,?_,?_,hb.frame _,fun h=>by cases h⟩
 ·rw[q_k,hs ds w8,Aea];exact⟨[],[],⟨1,by simp[DataW.trod,Zh,Value.cells]⟩,rfl,rfl⟩
 ·rw[q_k,hs ds w8];exact A3c hlaid hb hread (fun x hx=>Am x (by simpa using hx)) hA
 ·rw[q_k,hs ds w8,Ajy];rfl
end Go.Proofs.YtgfehkhcmnfpaaaGreatDoor.Abs
