import Derived.Test.YtgfehkhcmnfpaaaGreatDoorXOv
set_option linter.all false
set_option maxRecDepth 20000
set_option maxHeartbeats 4000000
namespace Go.Proofs.YtgfehkhcmnfpaaaGreatDoor.Abs
open Go Go.RowKit Go.Proofs.YtgfehkhcmnfpaaaGreatDoor
structure Zo(c:QC):Prop where
 n:c.tx.length<1000000000
 l:c.L.length<=c.tx.length
 e:c.e<=c.tx.length
 p:∀k,k<c.L.length->(c.tk k).p+(c.tk k).w.length<=c.tx.length
 cl:∀k q,k<c.L.length->Hc c k=some q->k<q/\q<=c.L.length/\(c.tk k).p<=(c.tk (q-1)).p+(c.tk (q-1)).w.length
 z:∀k ns,k<c.L.length->Hc c k=none->∃t p,Gn ((c.tx.drop (c.tk k).p).take (c.tx.length-(c.tk k).p)) ns 0 0=(t,some p)
def Abc(n:Nat):(Ff n).length=n:=by simp[Ff]
def wp{a b:Nat}(h:a+b<1000000000000):IntKind.i64.wrap ((a:Int)+(b:Int))=((a+b:Nat):Int):=by rw[w64 (by unfold fit;omega)];omega
section
variable{c:QC}{s:QS}
def Dn(hg:Zo c)(n:Nat)(hnn:n<=1000000)(pl:Bool)(hr:∀k p t,Gn ((c.tx.drop (c.tk k).p).take (Du c k-(c.tk k).p)) (Ff n) 0 0=(t,some p)->p<=c.tx.length):Cp 79 [Bv c s] [.gp 0 0,.int .i64 n,.bool pl] (.ret (.agg true (tv (Bw c n pl s).1))) [Bv c (Bw c n pl s).2]:=by
 have Hj:∀{G G'} (a:Cp 79 G [.gp 0 0,.int .i64 n,.bool pl] (.ret (.agg true [.int .i64 0,.int .i64 0,.int .i64 0,.int .i64 0,.nils])) G'),Cp 79 G [.gp 0 0,.int .i64 n,.bool pl] (.ret (.agg true (tv zR))) G':=fun a=>Gj a (Qz _ _ _ _)
 have hn:c.L.length<100000000000:=by have:=hg.n;have:=hg.l;omega
 have hTx:=hg.n;have a10:(c.L.length<=140737488355328)=True:=by simp;omega
 have ci:=Uu (c:=c) (s:=s) hn 1;have cf:=Sh (c:=c) (s:=s) hn s.k;have cf1:=Sh (c:=c) (s:=s) hn (s.k+1);have cc:=fun h=>Apz (c:=c) (s:=s) hn h
 obtain⟨k,b,a⟩:=s;simp only at cf cf1 cc;cases b;rotate_left
 ·rw[show Bw c n pl ⟨k,true,a⟩=(zR,Dv c ⟨k,true,a⟩ k) from rfl];refine Hj ?_;refine Ca mixed Tryz.func79 tr79 ?_;unfold Bv at cf |-;simp only[go_sem,seval];refine Ad cf ?_;simp only[go_sem,seval]
 by_cases h:k<c.L.length
 rotate_left
 ·rw[show Bw c n pl ⟨k,false,a⟩=(zR,Dv c ⟨k,false,a⟩ k) from if_neg (fun x=>h x.2)];refine Hj ?_;refine Ca mixed Tryz.func79 tr79 ?_;unfold Bv at cf |-;simp only[go_sem,seval,a10,q_jn (show (k:Int) >= (c.L.length:Int) by omega),q_g,forall_const];refine Ad cf ?_;simp only[go_sem,seval]
 obtain⟨a1,a2,a3,a4,a6,a7,a8,a9⟩:=qAt hn h;have cc:=cc (Nat.le_of_lt h);have hi:isQ c ⟨k,false,a⟩ 1=decide ((c.tk k).k=1):=by simp[isQ,h]
 have cn:=Akw n hnn;have hp:=hg.p k h
 -- the piece,read
 have hend:(c.tk k).p<=Du c k/\Du c k<=c.tx.length:=by
  unfold Du;cases hq:Hc c k with
  |none=>exact⟨by simp only;omega,q_ja _⟩
  |some q=>
   obtain⟨q1,q2,q3⟩:=hg.cl k q h hq;exact⟨q3,hg.p (q-1) (by omega)⟩
 have cr:=Ak6 (tx:=(c.tx.drop (c.tk k).p).take (Du c k-(c.tk k).p)) (ns:=Ff n) (by rw[Abc];omega) (by rw[q_kf];omega) (i:=0) (j:=0) (by omega) (by omega);have hr:=hr k
 by_cases El:(c.tk k).k=1
 rotate_left
 ·rw[q_je El] at hi;rw[hi] at ci;rw[show Bw c n pl ⟨k,false,a⟩=(match (Gn ((c.tx.drop (c.tk k).p).take (Du c k-(c.tk k).p)) (Ff n) 0 0) with|(t,none)=>(t,{ k:=(Hc c k).getD 0,bad:=false,at_:=a })|(_,some p)=>(zR,Fu ⟨k,false,a⟩ ((c.tk k).p+p))) from (if_pos ⟨rfl,h⟩).trans (if_neg (fun x=>El x.1))];cases hq:Hc c k with
  |none=>
   obtain⟨t,p,hz⟩:=hg.z k (Ff n) h hq;have hE:Du c k=c.tx.length:=by unfold Du;rw[hq]
   have Ha:=hr p t (by rw[hE];exact hz);rw[hE] at cr |-;rw[hq] at cc;rw[hz] at cr |-;have cp:=Ns (c:=c) (s:=⟨k,false,a⟩) ((c.tk k).p+p);refine Hj ?_;refine Ca mixed Tryz.func79 tr79 ?_;unfold Bv at ci cc cp |-;unfold nmG at cn cr
   repeat' first
   |simp only[go_sem,seval,a1,a2,a3,a4,a6,a7,a9,q_je a8,q_g,Jo,show Kf none=-1 from rfl,(show (0:Int)<=((c.tk k).p:Int) by omega),(show ((c.tk k).p:Int)<=(c.tx.length:Int) by omega),(show (c.tk k).p<=c.tx.length by omega),(show (0:Int)<=(c.tx.length:Int) by omega),Int.le_refl,q_ja,wp (a:=(c.tk k).p) (b:=p) (by omega),forall_const]
   |refine Ad ci ?_
   |refine Ad cc ?_
   |refine Aj cn ?_
   |refine Aj cr ?_
   |refine Ad cp ?_
  |some q=>
   obtain⟨q1,q2,q3⟩:=hg.cl k q h hq;obtain⟨b1,b2,b3,b4,b6,b7,b8,b9⟩:=qAt hn (show q-1<c.L.length by omega);have hqp:=hg.p (q-1) (by omega);have hE:Du c k=(c.tk (q-1)).p+(c.tk (q-1)).w.length:=by unfold Du;rw[hq]
   have Mc:IntKind.i64.wrap ((q:Int)-1)=((q-1:Nat):Int):=by rw[w64 (by unfold fit;omega)];omega
   have Hb:=wp (a:=(c.tk (q-1)).p) (b:=(c.tk (q-1)).w.length) (by omega);rw[hE] at cr |-;rw[hq] at cc;rw[show (some q).getD 0=q from rfl];rw[hE] at hr hend;generalize (c.tk (q-1)).p+(c.tk (q-1)).w.length=E at *
   cases hz:Gn ((c.tx.drop (c.tk k).p).take (E-(c.tk k).p)) (Ff n) 0 0 with
   |mk t o=>
    rw[hz] at cr;cases o with
    |none=>
     refine Ca mixed Tryz.func79 tr79 ?_;unfold Bv at ci cc |-;unfold nmG at cn cr
     repeat' first
     |simp only[go_sem,seval,a1,a2,a3,a4,a6,a7,a9,q_je a8,q_g,Jo,show Kf (some q)=(q:Int) from rfl,q_jn (show (q:Int) > 0 by omega),Mc,Hb,b1,b2,b3,b4,b9,(show (0:Int)<=((c.tk k).p:Int) by omega),(show ((c.tk k).p:Int)<=(E:Int) by omega),(show (E:Int)<=(c.tx.length:Int) by omega),(show (0:Int)<=(E:Int) by omega),hend.1,hend.2,forall_const]
     |refine Ad ci ?_
     |refine Ad cc ?_
     |refine Aj cn ?_
     |refine Aj cr ?_
    |some p=>
     have Ha:=hr p t hz;have cp:=Ns (c:=c) (s:=⟨k,false,a⟩) ((c.tk k).p+p);refine Hj ?_;refine Ca mixed Tryz.func79 tr79 ?_;unfold Bv at ci cc cp |-;unfold nmG at cn cr
     repeat' first
     |simp only[go_sem,seval,a1,a2,a3,a4,a6,a7,a9,q_je a8,q_g,Jo,show Kf (some q)=(q:Int) from rfl,q_jn (show (q:Int) > 0 by omega),Mc,Hb,b1,b2,b3,b4,b9,(show (0:Int)<=((c.tk k).p:Int) by omega),(show ((c.tk k).p:Int)<=(E:Int) by omega),(show (E:Int)<=(c.tx.length:Int) by omega),(show (0:Int)<=(E:Int) by omega),hend.1,hend.2,wp (a:=(c.tk k).p) (b:=p) (by omega),forall_const]
     |refine Ad ci ?_
     |refine Ad cc ?_
     |refine Aj cn ?_
     |refine Aj cr ?_
     |refine Ad cp ?_
 rw[q_jn El] at hi;rw[hi] at ci
 by_cases h1:k+1<c.L.length
 rotate_left
 ·have n1:¬((k+1:Nat):Int)<(c.L.length:Int):=by omega
  rw[show Bw c n pl ⟨k,false,a⟩=(match (Gn ((c.tx.drop (c.tk k).p).take (Du c k-(c.tk k).p)) (Ff n) 0 0) with|(t,none)=>(t,{ k:=(Hc c k).getD 0,bad:=false,at_:=a })|(_,some p)=>(zR,Fu ⟨k,false,a⟩ ((c.tk k).p+p))) from (if_pos ⟨rfl,h⟩).trans (if_neg (fun x=>h1 x.2.1))];cases hq:Hc c k with
  |none=>
   obtain⟨t,p,hz⟩:=hg.z k (Ff n) h hq;have hE:Du c k=c.tx.length:=by unfold Du;rw[hq]
   have Ha:=hr p t (by rw[hE];exact hz);rw[hE] at cr |-;rw[hq] at cc;rw[hz] at cr |-;have cp:=Ns (c:=c) (s:=⟨k,false,a⟩) ((c.tk k).p+p);refine Hj ?_;refine Ca mixed Tryz.func79 tr79 ?_;unfold Bv at ci cc cp |-;unfold nmG at cn cr
   repeat' first
   |simp only[go_sem,seval,a1,a2,a3,a4,a6,a7,a9,q_je a8,q_g,Jo,q_je n1,show Kf none=-1 from rfl,(show (0:Int)<=((c.tk k).p:Int) by omega),(show ((c.tk k).p:Int)<=(c.tx.length:Int) by omega),(show (c.tk k).p<=c.tx.length by omega),(show (0:Int)<=(c.tx.length:Int) by omega),Int.le_refl,q_ja,wp (a:=(c.tk k).p) (b:=p) (by omega),forall_const]
   |refine Ad ci ?_
   |refine Ad cc ?_
   |refine Aj cn ?_
   |refine Aj cr ?_
   |refine Ad cp ?_
  |some q=>
   obtain⟨q1,q2,q3⟩:=hg.cl k q h hq;obtain⟨b1,b2,b3,b4,b6,b7,b8,b9⟩:=qAt hn (show q-1<c.L.length by omega);have hqp:=hg.p (q-1) (by omega);have hE:Du c k=(c.tk (q-1)).p+(c.tk (q-1)).w.length:=by unfold Du;rw[hq]
   have Mc:IntKind.i64.wrap ((q:Int)-1)=((q-1:Nat):Int):=by rw[w64 (by unfold fit;omega)];omega
   have Hb:=wp (a:=(c.tk (q-1)).p) (b:=(c.tk (q-1)).w.length) (by omega);rw[hE] at cr |-;rw[hq] at cc;rw[show (some q).getD 0=q from rfl];rw[hE] at hr hend;generalize (c.tk (q-1)).p+(c.tk (q-1)).w.length=E at *
   cases hz:Gn ((c.tx.drop (c.tk k).p).take (E-(c.tk k).p)) (Ff n) 0 0 with
   |mk t o=>
    rw[hz] at cr;cases o with
    |none=>
     refine Ca mixed Tryz.func79 tr79 ?_;unfold Bv at ci cc |-;unfold nmG at cn cr
     repeat' first
     |simp only[go_sem,seval,a1,a2,a3,a4,a6,a7,a9,q_je a8,q_g,Jo,q_je n1,show Kf (some q)=(q:Int) from rfl,q_jn (show (q:Int) > 0 by omega),Mc,Hb,b1,b2,b3,b4,b9,(show (0:Int)<=((c.tk k).p:Int) by omega),(show ((c.tk k).p:Int)<=(E:Int) by omega),(show (E:Int)<=(c.tx.length:Int) by omega),(show (0:Int)<=(E:Int) by omega),hend.1,hend.2,forall_const]
     |refine Ad ci ?_
     |refine Ad cc ?_
     |refine Aj cn ?_
     |refine Aj cr ?_
    |some p=>
     have Ha:=hr p t hz;have cp:=Ns (c:=c) (s:=⟨k,false,a⟩) ((c.tk k).p+p);refine Hj ?_;refine Ca mixed Tryz.func79 tr79 ?_;unfold Bv at ci cc cp |-;unfold nmG at cn cr
     repeat' first
     |simp only[go_sem,seval,a1,a2,a3,a4,a6,a7,a9,q_je a8,q_g,Jo,q_je n1,show Kf (some q)=(q:Int) from rfl,q_jn (show (q:Int) > 0 by omega),Mc,Hb,b1,b2,b3,b4,b9,(show (0:Int)<=((c.tk k).p:Int) by omega),(show ((c.tk k).p:Int)<=(E:Int) by omega),(show (E:Int)<=(c.tx.length:Int) by omega),(show (0:Int)<=(E:Int) by omega),hend.1,hend.2,wp (a:=(c.tk k).p) (b:=p) (by omega),forall_const]
     |refine Ad ci ?_
     |refine Ad cc ?_
     |refine Aj cn ?_
     |refine Aj cr ?_
     |refine Ad cp ?_
 obtain⟨d1,d2,d3,d4,d6,d7,d8,d9⟩:=qAt hn h1
 by_cases Gi:(c.tk (k+1)).k=3
 rotate_left
 ·have k3:(((c.tk (k+1)).k:Int)==3)=false:=by simp;omega
  rw[show Bw c n pl ⟨k,false,a⟩=(match (Gn ((c.tx.drop (c.tk k).p).take (Du c k-(c.tk k).p)) (Ff n) 0 0) with|(t,none)=>(t,{ k:=(Hc c k).getD 0,bad:=false,at_:=a })|(_,some p)=>(zR,Fu ⟨k,false,a⟩ ((c.tk k).p+p))) from (if_pos ⟨rfl,h⟩).trans (if_neg (fun x=>Gi x.2.2.1))];cases hq:Hc c k with
  |none=>
   obtain⟨t,p,hz⟩:=hg.z k (Ff n) h hq;have hE:Du c k=c.tx.length:=by unfold Du;rw[hq]
   have Ha:=hr p t (by rw[hE];exact hz);rw[hE] at cr |-;rw[hq] at cc;rw[hz] at cr |-;have cp:=Ns (c:=c) (s:=⟨k,false,a⟩) ((c.tk k).p+p);refine Hj ?_;refine Ca mixed Tryz.func79 tr79 ?_;unfold Bv at ci cc cp |-;unfold nmG at cn cr
   repeat' first
   |simp only[go_sem,seval,a1,a2,a3,a4,a6,a7,a9,q_je a8,q_g,Jo,q_jn d2,d1,d2,d3,d4,k3,show Kf none=-1 from rfl,(show (0:Int)<=((c.tk k).p:Int) by omega),(show ((c.tk k).p:Int)<=(c.tx.length:Int) by omega),(show (c.tk k).p<=c.tx.length by omega),(show (0:Int)<=(c.tx.length:Int) by omega),Int.le_refl,q_ja,wp (a:=(c.tk k).p) (b:=p) (by omega),forall_const]
   |refine Ad ci ?_
   |refine Ad cc ?_
   |refine Aj cn ?_
   |refine Aj cr ?_
   |refine Ad cp ?_
  |some q=>
   obtain⟨q1,q2,q3⟩:=hg.cl k q h hq;obtain⟨b1,b2,b3,b4,b6,b7,b8,b9⟩:=qAt hn (show q-1<c.L.length by omega);have hqp:=hg.p (q-1) (by omega);have hE:Du c k=(c.tk (q-1)).p+(c.tk (q-1)).w.length:=by unfold Du;rw[hq]
   have Mc:IntKind.i64.wrap ((q:Int)-1)=((q-1:Nat):Int):=by rw[w64 (by unfold fit;omega)];omega
   have Hb:=wp (a:=(c.tk (q-1)).p) (b:=(c.tk (q-1)).w.length) (by omega);rw[hE] at cr |-;rw[hq] at cc;rw[show (some q).getD 0=q from rfl];rw[hE] at hr hend;generalize (c.tk (q-1)).p+(c.tk (q-1)).w.length=E at *
   cases hz:Gn ((c.tx.drop (c.tk k).p).take (E-(c.tk k).p)) (Ff n) 0 0 with
   |mk t o=>
    rw[hz] at cr;cases o with
    |none=>
     refine Ca mixed Tryz.func79 tr79 ?_;unfold Bv at ci cc |-;unfold nmG at cn cr
     repeat' first
     |simp only[go_sem,seval,a1,a2,a3,a4,a6,a7,a9,q_je a8,q_g,Jo,q_jn d2,d1,d2,d3,d4,k3,show Kf (some q)=(q:Int) from rfl,q_jn (show (q:Int) > 0 by omega),Mc,Hb,b1,b2,b3,b4,b9,(show (0:Int)<=((c.tk k).p:Int) by omega),(show ((c.tk k).p:Int)<=(E:Int) by omega),(show (E:Int)<=(c.tx.length:Int) by omega),(show (0:Int)<=(E:Int) by omega),hend.1,hend.2,forall_const]
     |refine Ad ci ?_
     |refine Ad cc ?_
     |refine Aj cn ?_
     |refine Aj cr ?_
    |some p=>
     have Ha:=hr p t hz;have cp:=Ns (c:=c) (s:=⟨k,false,a⟩) ((c.tk k).p+p);refine Hj ?_;refine Ca mixed Tryz.func79 tr79 ?_;unfold Bv at ci cc cp |-;unfold nmG at cn cr
     repeat' first
     |simp only[go_sem,seval,a1,a2,a3,a4,a6,a7,a9,q_je a8,q_g,Jo,q_jn d2,d1,d2,d3,d4,k3,show Kf (some q)=(q:Int) from rfl,q_jn (show (q:Int) > 0 by omega),Mc,Hb,b1,b2,b3,b4,b9,(show (0:Int)<=((c.tk k).p:Int) by omega),(show ((c.tk k).p:Int)<=(E:Int) by omega),(show (E:Int)<=(c.tx.length:Int) by omega),(show (0:Int)<=(E:Int) by omega),hend.1,hend.2,wp (a:=(c.tk k).p) (b:=p) (by omega),forall_const]
     |refine Ad ci ?_
     |refine Ad cc ?_
     |refine Aj cn ?_
     |refine Aj cr ?_
     |refine Ad cp ?_
 have k3:(((c.tk (k+1)).k:Int)==3)=true:=by simp[Gi]
 have co:=Ak3 (c.tk (k+1)).w pl;cases ho:Pm (c.tk (k+1)).w pl
 ·rw[ho] at co;rw[show Bw c n pl ⟨k,false,a⟩=(match (Gn ((c.tx.drop (c.tk k).p).take (Du c k-(c.tk k).p)) (Ff n) 0 0) with|(t,none)=>(t,{ k:=(Hc c k).getD 0,bad:=false,at_:=a })|(_,some p)=>(zR,Fu ⟨k,false,a⟩ ((c.tk k).p+p))) from (if_pos ⟨rfl,h⟩).trans (if_neg (fun x=>by rw[ho] at x;cases x.2.2.2))];cases hq:Hc c k with
  |none=>
   obtain⟨t,p,hz⟩:=hg.z k (Ff n) h hq;have hE:Du c k=c.tx.length:=by unfold Du;rw[hq]
   have Ha:=hr p t (by rw[hE];exact hz);rw[hE] at cr |-;rw[hq] at cc;rw[hz] at cr |-;have cp:=Ns (c:=c) (s:=⟨k,false,a⟩) ((c.tk k).p+p);refine Hj ?_;refine Ca mixed Tryz.func79 tr79 ?_;unfold Bv at ci cc cp |-;unfold nmG at cn cr
   repeat' first
   |simp only[go_sem,seval,a1,a2,a3,a4,a6,a7,a9,q_je a8,q_g,Jo,q_jn d2,d1,d2,d3,d4,k3,show Kf none=-1 from rfl,(show (0:Int)<=((c.tk k).p:Int) by omega),(show ((c.tk k).p:Int)<=(c.tx.length:Int) by omega),(show (c.tk k).p<=c.tx.length by omega),(show (0:Int)<=(c.tx.length:Int) by omega),Int.le_refl,q_ja,wp (a:=(c.tk k).p) (b:=p) (by omega),forall_const]
   |refine Ad ci ?_
   |refine Aj co ?_
   |refine Ad cc ?_
   |refine Aj cn ?_
   |refine Aj cr ?_
   |refine Ad cp ?_
  |some q=>
   obtain⟨q1,q2,q3⟩:=hg.cl k q h hq;obtain⟨b1,b2,b3,b4,b6,b7,b8,b9⟩:=qAt hn (show q-1<c.L.length by omega);have hqp:=hg.p (q-1) (by omega);have hE:Du c k=(c.tk (q-1)).p+(c.tk (q-1)).w.length:=by unfold Du;rw[hq]
   have Mc:IntKind.i64.wrap ((q:Int)-1)=((q-1:Nat):Int):=by rw[w64 (by unfold fit;omega)];omega
   have Hb:=wp (a:=(c.tk (q-1)).p) (b:=(c.tk (q-1)).w.length) (by omega);rw[hE] at cr |-;rw[hq] at cc;rw[show (some q).getD 0=q from rfl];rw[hE] at hr hend;generalize (c.tk (q-1)).p+(c.tk (q-1)).w.length=E at *
   cases hz:Gn ((c.tx.drop (c.tk k).p).take (E-(c.tk k).p)) (Ff n) 0 0 with
   |mk t o=>
    rw[hz] at cr;cases o with
    |none=>
     refine Ca mixed Tryz.func79 tr79 ?_;unfold Bv at ci cc |-;unfold nmG at cn cr
     repeat' first
     |simp only[go_sem,seval,a1,a2,a3,a4,a6,a7,a9,q_je a8,q_g,Jo,q_jn d2,d1,d2,d3,d4,k3,show Kf (some q)=(q:Int) from rfl,q_jn (show (q:Int) > 0 by omega),Mc,Hb,b1,b2,b3,b4,b9,(show (0:Int)<=((c.tk k).p:Int) by omega),(show ((c.tk k).p:Int)<=(E:Int) by omega),(show (E:Int)<=(c.tx.length:Int) by omega),(show (0:Int)<=(E:Int) by omega),hend.1,hend.2,forall_const]
     |refine Ad ci ?_
     |refine Aj co ?_
     |refine Ad cc ?_
     |refine Aj cn ?_
     |refine Aj cr ?_
    |some p=>
     have Ha:=hr p t hz;have cp:=Ns (c:=c) (s:=⟨k,false,a⟩) ((c.tk k).p+p);refine Hj ?_;refine Ca mixed Tryz.func79 tr79 ?_;unfold Bv at ci cc cp |-;unfold nmG at cn cr
     repeat' first
     |simp only[go_sem,seval,a1,a2,a3,a4,a6,a7,a9,q_je a8,q_g,Jo,q_jn d2,d1,d2,d3,d4,k3,show Kf (some q)=(q:Int) from rfl,q_jn (show (q:Int) > 0 by omega),Mc,Hb,b1,b2,b3,b4,b9,(show (0:Int)<=((c.tk k).p:Int) by omega),(show ((c.tk k).p:Int)<=(E:Int) by omega),(show (E:Int)<=(c.tx.length:Int) by omega),(show (0:Int)<=(E:Int) by omega),hend.1,hend.2,wp (a:=(c.tk k).p) (b:=p) (by omega),forall_const]
     |refine Ad ci ?_
     |refine Aj co ?_
     |refine Ad cc ?_
     |refine Aj cn ?_
     |refine Aj cr ?_
     |refine Ad cp ?_
 ·rw[ho] at co;rw[show Bw c n pl ⟨k,false,a⟩=(zR,Dv c ⟨k,false,a⟩ (k+1)) from (if_pos ⟨rfl,h⟩).trans (if_pos ⟨El,h1,Gi,ho⟩)];refine Hj ?_;refine Ca mixed Tryz.func79 tr79 ?_;unfold Bv at ci cf1 |-
  repeat' first
  |simp only[go_sem,seval,a1,a2,a3,a4,a6,a7,a9,q_je a8,q_g,Jo,q_jn d2,d1,d2,d3,d4,k3,forall_const]
  |refine Ad ci ?_
  |refine Aj co ?_
  |refine Ad cf1 ?_
end
def Cs(e:Tm×Nat):List SV:=tv e.1++[.int .i64 e.2]
def Px(e:Tm×Nat):(Cs e).length=6:=by unfold Cs;rw[q_jr,Cg];rfl
def Ry(t:Tm)(i:Nat):fill [SV.int .i64 0,.int .i64 0,.int .i64 0,.int .i64 0,.nils,.int .i64 0] [(0,5,.agg true (tv t)),(5,1,.int .i64 i)]=Cs (t,i):=by
 obtain⟨k,a,b,n,l⟩:=t;unfold Cs;rw[Bo];rfl
structure GoodP(c:QC):Prop extends Zo c where
 r:∀n k p t,Gn ((c.tx.drop (c.tk k).p).take (Du c k-(c.tk k).p)) (Ff n) 0 0=(t,some p)->p<=c.tx.length
 m:c.tx.length<1000000
section
variable{c:QC}{s:QS}
def GoodP.hn(hg:GoodP c):c.L.length<100000000000:=by have:=hg.n;have:=hg.l;omega
def z5:List SV:=[.int .i64 0,.int .i64 0,.int .i64 0,.int .i64 0,.nils]
def Hm:List (Tm×Nat)->SV
 |[]=>.nils
 |e::es=>.dsl 6 ((e::es).map Cs)
def xqV(x:XQ):List SV:=Hm x.ctx::.bool x.eq::.int .i64 x.i::(tv x.a++(tv x.u++(if x.eq then tv x.b++(tv x.v++tv x.h) else z5++(z5++z5))))
def zx:List SV:=.nils::.bool false::.int .i64 0::(z5++(z5++(z5++(z5++z5))))
def xb(ctx:SV)(eq:Bool):List SV:=ctx::.bool eq::.int .i64 0::(z5++(z5++(z5++(z5++z5))))
def Ua(c:QC)(eq:Bool):List (Tm×Nat)×QS->St
 |([],s)=>⟨(.gp 0 0::.J::.ref 1 0 0 0::.ref 2 0 0 0::Gd (Gd (Fe (jk2 (.J::[]))))),[gOb [Bv c s],⟨true,28,[zx],0,0,true⟩,⟨true,28,[xb .nils eq],0,0,true⟩]⟩
 |(e::es,s)=>⟨(.gp 0 0::.J::.ref 1 0 0 0::.ref 2 0 0 0::Gd (Gd (Fe (jk2 (.J::[]))))),[gOb [Bv c s],⟨true,28,[zx],0,0,true⟩,⟨true,28,[xb (.osl 4 es.length 0 (es.length+1)) eq],0,0,false⟩,⟨false,6,[Cs e],0,0,true⟩,⟨false,6,(e::es).map Cs,es.length,es.length,true⟩]⟩
def Ku(eq:Bool):Ua c eq ([],s)=⟨(.gp 0 0::.J::.ref 1 0 0 0::.ref 2 0 0 0::Gd (Gd (Fe (jk2 (.J::[]))))),[gOb [Bv c s],⟨true,28,[zx],0,0,true⟩,⟨true,28,[xb .nils eq],0,0,true⟩]⟩:=rfl
def Ix(eq:Bool)(e:Tm×Nat)(es:List (Tm×Nat)):Ua c eq (e::es,s)=⟨(.gp 0 0::.J::.ref 1 0 0 0::.ref 2 0 0 0::Gd (Gd (Fe (jk2 (.J::[]))))),[gOb [Bv c s],⟨true,28,[zx],0,0,true⟩,⟨true,28,[xb (.osl 4 es.length 0 (es.length+1)) eq],0,0,false⟩,⟨false,6,[Cs e],0,0,true⟩,⟨false,6,(e::es).map Cs,es.length,es.length,true⟩]⟩:=rfl
def muQ(c:QC)(s:QS):Nat:=if s.bad then 0 else c.L.length+1-s.k
def Arn(hb:s.bad=true):Dk c s=(0,s):=by unfold Dk;rw[Zd hb,Xg];rfl
def Aay(hk:s.k<=c.L.length):(Dk c s).2.k<=c.L.length/\s.k<=(Dk c s).2.k/\((Dk c s).2.bad=false->s.k<(Dk c s).2.k):=by
 have fk:∀(q:QS) k,(Dv c q k).k=q.k:=fun q k=>by unfold Dv Fu;split<;>rfl
 have fb:∀(q:QS) k,(Dv c q k).bad=true:=fun q k=>by unfold Dv Fu;split;assumption;rfl
 cases hb:s.bad with
 |true=>
  rw[Arn hb];exact⟨hk,q_ja _,fun h=>absurd (show s.bad=false from h) (by rw[hb];decide)⟩
 |false=>
  unfold Dk;rcases Zf (c:=c) hb 4 with⟨h,h1,_⟩|⟨a,h⟩
  ·rw[h];dsimp only;split
   ·exact⟨by rw[fk];exact h1,by rw[fk];exact Nat.le_succ _,fun h=>by rw[fb] at h;cases h⟩
   ·exact⟨h1,Nat.le_succ _,fun _=>Nat.lt_succ_self _⟩
  ·rw[h,Xg];exact⟨hk,q_ja _,fun h=>(by cases h)⟩
def Abw(hg:Zo c)(n:Nat)(pl:Bool)(hk:s.k<=c.L.length):(Bw c n pl s).2.k<=c.L.length/\s.k<=(Bw c n pl s).2.k/\((Bw c n pl s).2.bad=false->s.k<(Bw c n pl s).2.k):=by
 unfold Bw;have fk:∀(q:QS) k,(Dv c q k).k=q.k:=fun q k=>by unfold Dv Fu;split<;>rfl
 have fb:∀(q:QS) k,(Dv c q k).bad=true:=fun q k=>by unfold Dv Fu;split;assumption;rfl
 have pk:∀(q:QS) k,(Fu q k).k=q.k:=fun q k=>by unfold Fu;split<;>rfl
 have pb:∀(q:QS) k,(Fu q k).bad=true:=fun q k=>by unfold Fu;split;assumption;rfl
 split;rotate_left
 ·exact⟨by rw[fk];exact hk,by rw[fk];exact q_ja _,fun h=>by rw[fb] at h;cases h⟩
 rename_i h;split
 ·exact⟨by rw[fk];exact hk,by rw[fk];exact q_ja _,fun h=>by rw[fb] at h;cases h⟩
 cases hz:Gn ((c.tx.drop (c.tk s.k).p).take (Du c s.k-(c.tk s.k).p)) (Ff n) 0 0 with
 |mk t o=>
  cases o with
  |some p=>exact⟨by rw[pk];exact hk,by rw[pk];exact q_ja _,fun h=>by rw[pb] at h;cases h⟩
  |none=>
   cases hq:Hc c s.k with
   |none=>
    obtain⟨t2,p,hz2⟩:=hg.z s.k (Ff n) h.2 hq;have hE:Du c s.k=c.tx.length:=by unfold Du;rw[hq]
    rw[hE,hz2] at hz;cases hz
   |some q=>
    obtain⟨q1,q2,_⟩:=hg.cl s.k q h.2 hq;dsimp only[q_jz];exact⟨q2,Nat.le_of_lt q1,fun _=>q1⟩
def Ig{kd:Nat}(hk:s.k<=c.L.length):(Bu c s kd).2.k<=c.L.length:=by
 cases hb:s.bad with
 |true=>rw[Zd hb];exact hk
 |false=>
  rcases Zf (c:=c) hb kd with⟨h,h1,_⟩|⟨a,h⟩
  ·rw[h];exact h1
  ·rw[h];exact hk
def Apy(hg:GoodP c)(hk:s.k<=c.L.length):Cp 41 [Bv c s] [.gp 0 0] (.ret (.agg true (xqV (Ju c s).1))) [Bv c (Ju c s).2]:=by
 have hn:=hg.hn;have c1:=He (c:=c) (s:=s) hn 3;have El:=Ig (c:=c) (kd:=3) hk;refine Ca mixed Tryz.func41 tr41 ?_;generalize Jh:Bu c s 3=q1 at *
 obtain⟨w,s1⟩:=q1;simp only at *
 by_cases hw:w=[116,101,114,109]
 ·subst hw;have eh:Ky c s=(false,s1):=by unfold Ky;rw[Jh];rfl
  unfold Ju;rw[eh];dsimp only;have c2:=He (c:=c) (s:=s1) hn 1;have Fz:=Ig (c:=c) (kd:=1) El;generalize Bu c s1 1=q2 at *
  obtain⟨w2,s2⟩:=q2;simp only at *
  generalize hR:Ep c (c.L.length+1) [] s2=R at *
  unfold Bv at c1 c2 |-
  repeat' first
  |simp only[go_sem,seval]
  |refine Ad c1 ?_
  |refine Ad c2 ?_
  refine Oh (Ua c false) (fun a=>muQ c a.2) (fun a=>a.2.k<=c.L.length/\a.1.length<=a.2.k+1/\(a.2.bad=false->a.1.length<=a.2.k)/\∃f,muQ c a.2<=f/\Ep c f a.1 a.2=R) (fun a ha=>?_) ([],s2) ⟨Fz,Nat.zero_le _,fun _=>Nat.zero_le _,c.L.length+1,by unfold muQ;split<;>omega,hR⟩ (by rw[Ku];unfold Bv;exact Cw (by simp[Ci]));obtain⟨es,sx⟩:=a;obtain⟨Gz,Dw,Lw,f,hf,hq⟩:=ha;simp only at Gz Dw Lw hf hq;have ci:=Uu (c:=c) (s:=sx) hn 2
  by_cases hgo:sx.bad=false/\isQ c sx 2=false
  ·obtain⟨f,rfl⟩:∃g,f=g+1:=⟨f-1,by unfold muQ at hf;rw[hgo.1,if_neg (by simp)] at hf;omega⟩
   have Va:=Lw hgo.1;rw[Ep,if_pos hgo] at hq;have cl:=Ja (c:=c) (s:=sx) hn;have kl:=Aay (c:=c) Gz;generalize Dk c sx=q3 at *
   obtain⟨i,s3⟩:=q3;simp only at cl kl hq;have ct:=Dn hg.toZo (s:=s3) es.length (by have:=hg.m;have:=hg.l;omega) false (hg.r es.length);have kt:=Abw hg.toZo es.length false (s:=s3) kl.1;generalize Bw c es.length false s3=q4 at *
   obtain⟨t,s4⟩:=q4;simp only at ct kt hq;have hmu:muQ c s4<muQ c sx/\muQ c s4<=f:=by
    unfold muQ at hf |-;simp only[hgo.1,q_kv,if_false] at hf |-;cases Lt:s4.bad with
    |true=>simp only[if_true];omega
    |false=>
     have a1:=kt.2.2 Lt;simp only[q_kv,if_false];have:=kl.2.1;have:=kt.1;omega
   have hk4:es.length+1<=s4.k+1/\(s4.bad=false->es.length+1<=s4.k):=by
    have a1:=kl.2.1;have a2:=kt.2.1;exact⟨by omega,fun Lt=>by have:=kt.2.2 Lt;omega⟩
   have hb:=hgo.1;have hi:=hgo.2;rw[hi] at ci;cases es with
   |nil=>
    rw[Ku];unfold Bv at ci cl ct |-;simp only[hb] at ci cl
    repeat' first
    |simp only[go_sem,seval,hb,Ry,Px,zx,xb,z5,q_km,q_kl]
    |refine Ad ci ?_
    |refine Ad cl ?_
    |refine Ad ct ?_
    refine⟨([(t,i)],s4),⟨hmu.1,kt.1,hk4.1,hk4.2,f,hmu.2,hq⟩,?_⟩;rw[Ix];unfold Bv zx xb z5;exact Jr 5 (by simp[Ci]) (by simp) (by simp[Dt]) (by simp[gOb,Dt])
   |cons e es=>
    have hset:∀u v:List SV,((e::es).map Cs++[u]).set (es.length+1) v=(e::es).map Cs++[v]:=fun u v=>by
     rw[List.set_append_right _ _ (by simp),q_g,q_jk,Nat.sub_self,List.set_cons_zero]
    have Aen:es.length+1<=1000000:=by have:=hg.m;have:=hg.l;simp only[q_jk] at Va;omega
    rw[Ix];unfold Bv at ci cl ct |-;simp only[hb] at ci cl
    repeat' first
    |simp only[go_sem,seval,hb,Ry,Px,zx,xb,z5,q_km,q_kl]
    |refine Ad ci ?_
    |refine Ad cl ?_
    |refine Ad ct ?_
    refine⟨⟨by simp,by omega,by omega⟩,?_⟩;refine⟨(e::(es++[(t,i)]),s4),⟨hmu.1,kt.1,by simpa using hk4.1,fun h=>by simpa using hk4.2 h,f,hmu.2,hq⟩,?_⟩;rw[Ix];unfold Bv zx xb z5;simp only[q_h,q_kr,q_i,q_jr,q_jk,List.length_nil,q_g,q_jg,q_km,q_kl];exact Jr 5 (by simp[Ci]) (by simp) (by simp[Dt]) (by simp[gOb,Dt])
  ·have Hb:Ep c f es sx=(es,sx):=by cases f with
    |zero=>rfl
    |succ f=>rw[Ep,if_neg hgo]
   rw[Hb] at hq;subst hq;dsimp only;have hle:es.length<=1000000:=by have:=hg.m;have:=hg.l;omega
   have Iz:sx.bad=true\/(sx.bad=false/\isQ c sx 2=true):=by
    cases hb:sx.bad with
    |true=>exact .inl rfl
    |false=>
     cases hi:isQ c sx 2 with
     |true=>exact .inr ⟨rfl,rfl⟩
     |false=>exact absurd ⟨hb,hi⟩ hgo
   obtain⟨N,hN⟩:∃N,es.length=N:=⟨_,rfl⟩
   rw[hN] at hle |-;clear Dw Lw hf Hb hR hgo;cases es with
   |nil=>
    obtain rfl:N=0:=by simpa using hN.symm
    rcases Iz with hb|⟨hb,hi⟩
    ·have c5:=He (c:=c) (s:=sx) hn 2;have k5:(Bu c sx 2).2.k<=c.L.length:=Ig Gz;generalize Bu c sx 2=q5 at *
     obtain⟨w5,s5⟩:=q5;dsimp only at c5 k5 |-;have c6:=Ja (c:=c) (s:=s5) hn;generalize Dk c s5=q6 at *
     obtain⟨li,s6⟩:=q6;dsimp only at c6 |-;have t1:=Dn hg.toZo (s:=s6) 0 hle false (hg.r 0);generalize Bw c 0 false s6=q at *
     obtain⟨⟨xq1,yq1,zq1,vq1,lq1⟩,sT1⟩:=q;dsimp only at t1 |-;rw[Bo] at t1;have t2:=Dn hg.toZo (s:=sT1) 0 hle false (hg.r 0);generalize Bw c 0 false sT1=q at *
     obtain⟨⟨xq2,yq2,zq2,vq2,lq2⟩,sT2⟩:=q;dsimp only at t2 |-;rw[Bo] at t2
     first|rw[if_pos (rfl:false=false)]|skip
     rw[Ku];unfold Bv at ci c5 c6 t1 t2 |-;simp only[hb] at ci c5
     repeat' first
     |simp (config:={ maxSteps:=4000000 }) only[go_sem,seval,hb,zx,xb,z5,xqV,Hm,Bo,q_h,q_jk,q_g,if_true,if_false,q_kv,Dd,List.take_succ_cons,List.take_zero,List.drop_succ_cons,List.drop_zero,q_km,q_kl]
     |refine Ad ci ?_
     |refine Ad c5 ?_
     |refine Ad c6 ?_
     |refine Ad t1 ?_
     |refine Ad t2 ?_
     all_goals first|exact⟨rfl,rfl⟩|rfl
    ·have c5:=He (c:=c) (s:=sx) hn 2;have k5:(Bu c sx 2).2.k<=c.L.length:=Ig Gz;generalize Bu c sx 2=q5 at *
     obtain⟨w5,s5⟩:=q5;dsimp only at c5 k5 |-;have c6:=Ja (c:=c) (s:=s5) hn;generalize Dk c s5=q6 at *
     obtain⟨li,s6⟩:=q6;dsimp only at c6 |-;have t1:=Dn hg.toZo (s:=s6) 0 hle false (hg.r 0);generalize Bw c 0 false s6=q at *
     obtain⟨⟨xq1,yq1,zq1,vq1,lq1⟩,sT1⟩:=q;dsimp only at t1 |-;rw[Bo] at t1;have t2:=Dn hg.toZo (s:=sT1) 0 hle false (hg.r 0);generalize Bw c 0 false sT1=q at *
     obtain⟨⟨xq2,yq2,zq2,vq2,lq2⟩,sT2⟩:=q;dsimp only at t2 |-;rw[Bo] at t2
     first|rw[if_pos (rfl:false=false)]|skip
     rw[Ku];unfold Bv at ci c5 c6 t1 t2 |-;simp only[hb,hi] at ci c5
     repeat' first
     |simp (config:={ maxSteps:=4000000 }) only[go_sem,seval,hb,zx,xb,z5,xqV,Hm,Bo,q_h,q_jk,q_g,if_true,if_false,q_kv,Dd,List.take_succ_cons,List.take_zero,List.drop_succ_cons,List.drop_zero,q_km,q_kl]
     |refine Ad ci ?_
     |refine Ad c5 ?_
     |refine Ad c6 ?_
     |refine Ad t1 ?_
     |refine Ad t2 ?_
     all_goals first|exact⟨rfl,rfl⟩|rfl
   |cons e es=>
    obtain rfl:N=es.length+1:=by simpa using hN.symm
    rcases Iz with hb|⟨hb,hi⟩
    ·have c5:=He (c:=c) (s:=sx) hn 2;have k5:(Bu c sx 2).2.k<=c.L.length:=Ig Gz;generalize Bu c sx 2=q5 at *
     obtain⟨w5,s5⟩:=q5;dsimp only at c5 k5 |-;have c6:=Ja (c:=c) (s:=s5) hn;generalize Dk c s5=q6 at *
     obtain⟨li,s6⟩:=q6;dsimp only at c6 |-;have t1:=Dn hg.toZo (s:=s6) (es.length+1) hle false (hg.r (es.length+1));generalize Bw c (es.length+1) false s6=q at *
     obtain⟨⟨xq1,yq1,zq1,vq1,lq1⟩,sT1⟩:=q;dsimp only at t1 |-;rw[Bo] at t1;have t2:=Dn hg.toZo (s:=sT1) (es.length+1) hle false (hg.r (es.length+1));generalize Bw c (es.length+1) false sT1=q at *
     obtain⟨⟨xq2,yq2,zq2,vq2,lq2⟩,sT2⟩:=q;dsimp only at t2 |-;rw[Bo] at t2
     first|rw[if_pos (rfl:false=false)]|skip
     have Ap:List.take (es.length+1) (Cs e::es.map Cs)=Cs e::es.map Cs:=q_js (by simp);rw[Ix];unfold Bv at ci c5 c6 t1 t2 |-;simp only[hb] at ci c5
     repeat' first
     |simp (config:={ maxSteps:=4000000 }) only[go_sem,seval,hb,zx,xb,z5,xqV,Hm,Bo,q_h,q_jk,q_g,if_true,if_false,q_kv,Ap,Dd,List.take_succ_cons,List.take_zero,List.drop_succ_cons,List.drop_zero,q_km,q_kl]
     |refine Ad ci ?_
     |refine Ad c5 ?_
     |refine Ad c6 ?_
     |refine Ad t1 ?_
     |refine Ad t2 ?_
     all_goals first|exact⟨rfl,rfl⟩|rfl
    ·have c5:=He (c:=c) (s:=sx) hn 2;have k5:(Bu c sx 2).2.k<=c.L.length:=Ig Gz;generalize Bu c sx 2=q5 at *
     obtain⟨w5,s5⟩:=q5;dsimp only at c5 k5 |-;have c6:=Ja (c:=c) (s:=s5) hn;generalize Dk c s5=q6 at *
     obtain⟨li,s6⟩:=q6;dsimp only at c6 |-;have t1:=Dn hg.toZo (s:=s6) (es.length+1) hle false (hg.r (es.length+1));generalize Bw c (es.length+1) false s6=q at *
     obtain⟨⟨xq1,yq1,zq1,vq1,lq1⟩,sT1⟩:=q;dsimp only at t1 |-;rw[Bo] at t1;have t2:=Dn hg.toZo (s:=sT1) (es.length+1) hle false (hg.r (es.length+1));generalize Bw c (es.length+1) false sT1=q at *
     obtain⟨⟨xq2,yq2,zq2,vq2,lq2⟩,sT2⟩:=q;dsimp only at t2 |-;rw[Bo] at t2
     first|rw[if_pos (rfl:false=false)]|skip
     have Ap:List.take (es.length+1) (Cs e::es.map Cs)=Cs e::es.map Cs:=q_js (by simp);rw[Ix];unfold Bv at ci c5 c6 t1 t2 |-;simp only[hb,hi] at ci c5
     repeat' first
     |simp (config:={ maxSteps:=4000000 }) only[go_sem,seval,hb,zx,xb,z5,xqV,Hm,Bo,q_h,q_jk,q_g,if_true,if_false,q_kv,Ap,Dd,List.take_succ_cons,List.take_zero,List.drop_succ_cons,List.drop_zero,q_km,q_kl]
     |refine Ad ci ?_
     |refine Ad c5 ?_
     |refine Ad c6 ?_
     |refine Ad t1 ?_
     |refine Ad t2 ?_
     all_goals first|exact⟨rfl,rfl⟩|rfl
 by_cases hw2:w=[101,113,117,97,108]
 ·subst hw2;have eh:Ky c s=(true,s1):=by unfold Ky;rw[Jh];rfl
  unfold Ju;rw[eh];dsimp only;have c2:=He (c:=c) (s:=s1) hn 1;have Fz:=Ig (c:=c) (kd:=1) El;generalize Bu c s1 1=q2 at *
  obtain⟨w2,s2⟩:=q2;simp only at *
  generalize hR:Ep c (c.L.length+1) [] s2=R at *
  unfold Bv at c1 c2 |-
  repeat' first
  |simp only[go_sem,seval,(show (([101,113,117,97,108]:By)==[116,101,114,109])=false by decide)]
  |refine Ad c1 ?_
  |refine Ad c2 ?_
  refine Oh (Ua c true) (fun a=>muQ c a.2) (fun a=>a.2.k<=c.L.length/\a.1.length<=a.2.k+1/\(a.2.bad=false->a.1.length<=a.2.k)/\∃f,muQ c a.2<=f/\Ep c f a.1 a.2=R) (fun a ha=>?_) ([],s2) ⟨Fz,Nat.zero_le _,fun _=>Nat.zero_le _,c.L.length+1,by unfold muQ;split<;>omega,hR⟩ (by rw[Ku];unfold Bv;exact Cw (by simp[Ci]));obtain⟨es,sx⟩:=a;obtain⟨Gz,Dw,Lw,f,hf,hq⟩:=ha;simp only at Gz Dw Lw hf hq;have ci:=Uu (c:=c) (s:=sx) hn 2
  by_cases hgo:sx.bad=false/\isQ c sx 2=false
  ·obtain⟨f,rfl⟩:∃g,f=g+1:=⟨f-1,by unfold muQ at hf;rw[hgo.1,if_neg (by simp)] at hf;omega⟩
   have Va:=Lw hgo.1;rw[Ep,if_pos hgo] at hq;have cl:=Ja (c:=c) (s:=sx) hn;have kl:=Aay (c:=c) Gz;generalize Dk c sx=q3 at *
   obtain⟨i,s3⟩:=q3;simp only at cl kl hq;have ct:=Dn hg.toZo (s:=s3) es.length (by have:=hg.m;have:=hg.l;omega) false (hg.r es.length);have kt:=Abw hg.toZo es.length false (s:=s3) kl.1;generalize Bw c es.length false s3=q4 at *
   obtain⟨t,s4⟩:=q4;simp only at ct kt hq;have hmu:muQ c s4<muQ c sx/\muQ c s4<=f:=by
    unfold muQ at hf |-;simp only[hgo.1,q_kv,if_false] at hf |-;cases Lt:s4.bad with
    |true=>simp only[if_true];omega
    |false=>
     have a1:=kt.2.2 Lt;simp only[q_kv,if_false];have:=kl.2.1;have:=kt.1;omega
   have hk4:es.length+1<=s4.k+1/\(s4.bad=false->es.length+1<=s4.k):=by
    have a1:=kl.2.1;have a2:=kt.2.1;exact⟨by omega,fun Lt=>by have:=kt.2.2 Lt;omega⟩
   have hb:=hgo.1;have hi:=hgo.2;rw[hi] at ci;cases es with
   |nil=>
    rw[Ku];unfold Bv at ci cl ct |-;simp only[hb] at ci cl
    repeat' first
    |simp only[go_sem,seval,hb,Ry,Px,zx,xb,z5,q_km,q_kl]
    |refine Ad ci ?_
    |refine Ad cl ?_
    |refine Ad ct ?_
    refine⟨([(t,i)],s4),⟨hmu.1,kt.1,hk4.1,hk4.2,f,hmu.2,hq⟩,?_⟩;rw[Ix];unfold Bv zx xb z5;exact Jr 5 (by simp[Ci]) (by simp) (by simp[Dt]) (by simp[gOb,Dt])
   |cons e es=>
    have hset:∀u v:List SV,((e::es).map Cs++[u]).set (es.length+1) v=(e::es).map Cs++[v]:=fun u v=>by
     rw[List.set_append_right _ _ (by simp),q_g,q_jk,Nat.sub_self,List.set_cons_zero]
    have Aen:es.length+1<=1000000:=by have:=hg.m;have:=hg.l;simp only[q_jk] at Va;omega
    rw[Ix];unfold Bv at ci cl ct |-;simp only[hb] at ci cl
    repeat' first
    |simp only[go_sem,seval,hb,Ry,Px,zx,xb,z5,q_km,q_kl]
    |refine Ad ci ?_
    |refine Ad cl ?_
    |refine Ad ct ?_
    refine⟨⟨by simp,by omega,by omega⟩,?_⟩;refine⟨(e::(es++[(t,i)]),s4),⟨hmu.1,kt.1,by simpa using hk4.1,fun h=>by simpa using hk4.2 h,f,hmu.2,hq⟩,?_⟩;rw[Ix];unfold Bv zx xb z5;simp only[q_h,q_kr,q_i,q_jr,q_jk,List.length_nil,q_g,q_jg,q_km,q_kl];exact Jr 5 (by simp[Ci]) (by simp) (by simp[Dt]) (by simp[gOb,Dt])
  ·have Hb:Ep c f es sx=(es,sx):=by cases f with
    |zero=>rfl
    |succ f=>rw[Ep,if_neg hgo]
   rw[Hb] at hq;subst hq;dsimp only;have hle:es.length<=1000000:=by have:=hg.m;have:=hg.l;omega
   have Iz:sx.bad=true\/(sx.bad=false/\isQ c sx 2=true):=by
    cases hb:sx.bad with
    |true=>exact .inl rfl
    |false=>
     cases hi:isQ c sx 2 with
     |true=>exact .inr ⟨rfl,rfl⟩
     |false=>exact absurd ⟨hb,hi⟩ hgo
   obtain⟨N,hN⟩:∃N,es.length=N:=⟨_,rfl⟩
   rw[hN] at hle |-;clear Dw Lw hf Hb hR hgo;cases es with
   |nil=>
    obtain rfl:N=0:=by simpa using hN.symm
    rcases Iz with hb|⟨hb,hi⟩
    ·have c5:=He (c:=c) (s:=sx) hn 2;have k5:(Bu c sx 2).2.k<=c.L.length:=Ig Gz;generalize Bu c sx 2=q5 at *
     obtain⟨w5,s5⟩:=q5;dsimp only at c5 k5 |-;have c6:=Ja (c:=c) (s:=s5) hn;generalize Dk c s5=q6 at *
     obtain⟨li,s6⟩:=q6;dsimp only at c6 |-;have t1:=Dn hg.toZo (s:=s6) 0 hle false (hg.r 0);generalize Bw c 0 false s6=q at *
     obtain⟨⟨xq1,yq1,zq1,vq1,lq1⟩,sT1⟩:=q;dsimp only at t1 |-;rw[Bo] at t1;have t2:=Dn hg.toZo (s:=sT1) 0 hle false (hg.r 0);generalize Bw c 0 false sT1=q at *
     obtain⟨⟨xq2,yq2,zq2,vq2,lq2⟩,sT2⟩:=q;dsimp only at t2 |-;rw[Bo] at t2;have t3:=Dn hg.toZo (s:=sT2) 0 hle false (hg.r 0);generalize Bw c 0 false sT2=q at *
     obtain⟨⟨xq3,yq3,zq3,vq3,lq3⟩,sT3⟩:=q;dsimp only at t3 |-;rw[Bo] at t3;have t4:=Dn hg.toZo (s:=sT3) 0 hle false (hg.r 0);generalize Bw c 0 false sT3=q at *
     obtain⟨⟨xq4,yq4,zq4,vq4,lq4⟩,sT4⟩:=q;dsimp only at t4 |-;rw[Bo] at t4;have t5:=Dn hg.toZo (s:=sT4) 0 hle true (hg.r 0);generalize Bw c 0 true sT4=q at *
     obtain⟨⟨xq5,yq5,zq5,vq5,lq5⟩,sT5⟩:=q;dsimp only at t5 |-;rw[Bo] at t5
     first|rw[if_neg (show ¬(true=false) by decide)]|skip
     rw[Ku];unfold Bv at ci c5 c6 t1 t2 t3 t4 t5 |-;simp only[hb] at ci c5
     repeat' first
     |simp (config:={ maxSteps:=4000000 }) only[go_sem,seval,hb,zx,xb,z5,xqV,Hm,Bo,q_h,q_jk,q_g,if_true,if_false,q_kv,Dd,List.take_succ_cons,List.take_zero,List.drop_succ_cons,List.drop_zero,q_km,q_kl]
     |refine Ad ci ?_
     |refine Ad c5 ?_
     |refine Ad c6 ?_
     |refine Ad t1 ?_
     |refine Ad t2 ?_
     |refine Ad t3 ?_
     |refine Ad t4 ?_
     |refine Ad t5 ?_
     all_goals first|exact⟨rfl,rfl⟩|rfl
    ·have c5:=He (c:=c) (s:=sx) hn 2;have k5:(Bu c sx 2).2.k<=c.L.length:=Ig Gz;generalize Bu c sx 2=q5 at *
     obtain⟨w5,s5⟩:=q5;dsimp only at c5 k5 |-;have c6:=Ja (c:=c) (s:=s5) hn;generalize Dk c s5=q6 at *
     obtain⟨li,s6⟩:=q6;dsimp only at c6 |-;have t1:=Dn hg.toZo (s:=s6) 0 hle false (hg.r 0);generalize Bw c 0 false s6=q at *
     obtain⟨⟨xq1,yq1,zq1,vq1,lq1⟩,sT1⟩:=q;dsimp only at t1 |-;rw[Bo] at t1;have t2:=Dn hg.toZo (s:=sT1) 0 hle false (hg.r 0);generalize Bw c 0 false sT1=q at *
     obtain⟨⟨xq2,yq2,zq2,vq2,lq2⟩,sT2⟩:=q;dsimp only at t2 |-;rw[Bo] at t2;have t3:=Dn hg.toZo (s:=sT2) 0 hle false (hg.r 0);generalize Bw c 0 false sT2=q at *
     obtain⟨⟨xq3,yq3,zq3,vq3,lq3⟩,sT3⟩:=q;dsimp only at t3 |-;rw[Bo] at t3;have t4:=Dn hg.toZo (s:=sT3) 0 hle false (hg.r 0);generalize Bw c 0 false sT3=q at *
     obtain⟨⟨xq4,yq4,zq4,vq4,lq4⟩,sT4⟩:=q;dsimp only at t4 |-;rw[Bo] at t4;have t5:=Dn hg.toZo (s:=sT4) 0 hle true (hg.r 0);generalize Bw c 0 true sT4=q at *
     obtain⟨⟨xq5,yq5,zq5,vq5,lq5⟩,sT5⟩:=q;dsimp only at t5 |-;rw[Bo] at t5
     first|rw[if_neg (show ¬(true=false) by decide)]|skip
     rw[Ku];unfold Bv at ci c5 c6 t1 t2 t3 t4 t5 |-;simp only[hb,hi] at ci c5
     repeat' first
     |simp (config:={ maxSteps:=4000000 }) only[go_sem,seval,hb,zx,xb,z5,xqV,Hm,Bo,q_h,q_jk,q_g,if_true,if_false,q_kv,Dd,List.take_succ_cons,List.take_zero,List.drop_succ_cons,List.drop_zero,q_km,q_kl]
     |refine Ad ci ?_
     |refine Ad c5 ?_
     |refine Ad c6 ?_
     |refine Ad t1 ?_
     |refine Ad t2 ?_
     |refine Ad t3 ?_
     |refine Ad t4 ?_
     |refine Ad t5 ?_
     all_goals first|exact⟨rfl,rfl⟩|rfl
   |cons e es=>
    obtain rfl:N=es.length+1:=by simpa using hN.symm
    rcases Iz with hb|⟨hb,hi⟩
    ·have c5:=He (c:=c) (s:=sx) hn 2;have k5:(Bu c sx 2).2.k<=c.L.length:=Ig Gz;generalize Bu c sx 2=q5 at *
     obtain⟨w5,s5⟩:=q5;dsimp only at c5 k5 |-;have c6:=Ja (c:=c) (s:=s5) hn;generalize Dk c s5=q6 at *
     obtain⟨li,s6⟩:=q6;dsimp only at c6 |-;have t1:=Dn hg.toZo (s:=s6) (es.length+1) hle false (hg.r (es.length+1));generalize Bw c (es.length+1) false s6=q at *
     obtain⟨⟨xq1,yq1,zq1,vq1,lq1⟩,sT1⟩:=q;dsimp only at t1 |-;rw[Bo] at t1;have t2:=Dn hg.toZo (s:=sT1) (es.length+1) hle false (hg.r (es.length+1));generalize Bw c (es.length+1) false sT1=q at *
     obtain⟨⟨xq2,yq2,zq2,vq2,lq2⟩,sT2⟩:=q;dsimp only at t2 |-;rw[Bo] at t2;have t3:=Dn hg.toZo (s:=sT2) (es.length+1) hle false (hg.r (es.length+1));generalize Bw c (es.length+1) false sT2=q at *
     obtain⟨⟨xq3,yq3,zq3,vq3,lq3⟩,sT3⟩:=q;dsimp only at t3 |-;rw[Bo] at t3;have t4:=Dn hg.toZo (s:=sT3) (es.length+1) hle false (hg.r (es.length+1));generalize Bw c (es.length+1) false sT3=q at *
     obtain⟨⟨xq4,yq4,zq4,vq4,lq4⟩,sT4⟩:=q;dsimp only at t4 |-;rw[Bo] at t4;have t5:=Dn hg.toZo (s:=sT4) (es.length+1) hle true (hg.r (es.length+1));generalize Bw c (es.length+1) true sT4=q at *
     obtain⟨⟨xq5,yq5,zq5,vq5,lq5⟩,sT5⟩:=q;dsimp only at t5 |-;rw[Bo] at t5
     first|rw[if_neg (show ¬(true=false) by decide)]|skip
     have Ap:List.take (es.length+1) (Cs e::es.map Cs)=Cs e::es.map Cs:=q_js (by simp);rw[Ix];unfold Bv at ci c5 c6 t1 t2 t3 t4 t5 |-;simp only[hb] at ci c5
     repeat' first
     |simp (config:={ maxSteps:=4000000 }) only[go_sem,seval,hb,zx,xb,z5,xqV,Hm,Bo,q_h,q_jk,q_g,if_true,if_false,q_kv,Ap,Dd,List.take_succ_cons,List.take_zero,List.drop_succ_cons,List.drop_zero,q_km,q_kl]
     |refine Ad ci ?_
     |refine Ad c5 ?_
     |refine Ad c6 ?_
     |refine Ad t1 ?_
     |refine Ad t2 ?_
     |refine Ad t3 ?_
     |refine Ad t4 ?_
     |refine Ad t5 ?_
     all_goals first|exact⟨rfl,rfl⟩|rfl
    ·have c5:=He (c:=c) (s:=sx) hn 2;have k5:(Bu c sx 2).2.k<=c.L.length:=Ig Gz;generalize Bu c sx 2=q5 at *
     obtain⟨w5,s5⟩:=q5;dsimp only at c5 k5 |-;have c6:=Ja (c:=c) (s:=s5) hn;generalize Dk c s5=q6 at *
     obtain⟨li,s6⟩:=q6;dsimp only at c6 |-;have t1:=Dn hg.toZo (s:=s6) (es.length+1) hle false (hg.r (es.length+1));generalize Bw c (es.length+1) false s6=q at *
     obtain⟨⟨xq1,yq1,zq1,vq1,lq1⟩,sT1⟩:=q;dsimp only at t1 |-;rw[Bo] at t1;have t2:=Dn hg.toZo (s:=sT1) (es.length+1) hle false (hg.r (es.length+1));generalize Bw c (es.length+1) false sT1=q at *
     obtain⟨⟨xq2,yq2,zq2,vq2,lq2⟩,sT2⟩:=q;dsimp only at t2 |-;rw[Bo] at t2;have t3:=Dn hg.toZo (s:=sT2) (es.length+1) hle false (hg.r (es.length+1));generalize Bw c (es.length+1) false sT2=q at *
     obtain⟨⟨xq3,yq3,zq3,vq3,lq3⟩,sT3⟩:=q;dsimp only at t3 |-;rw[Bo] at t3;have t4:=Dn hg.toZo (s:=sT3) (es.length+1) hle false (hg.r (es.length+1));generalize Bw c (es.length+1) false sT3=q at *
     obtain⟨⟨xq4,yq4,zq4,vq4,lq4⟩,sT4⟩:=q;dsimp only at t4 |-;rw[Bo] at t4;have t5:=Dn hg.toZo (s:=sT4) (es.length+1) hle true (hg.r (es.length+1));generalize Bw c (es.length+1) true sT4=q at *
     obtain⟨⟨xq5,yq5,zq5,vq5,lq5⟩,sT5⟩:=q;dsimp only at t5 |-;rw[Bo] at t5
     first|rw[if_neg (show ¬(true=false) by decide)]|skip
     have Ap:List.take (es.length+1) (Cs e::es.map Cs)=Cs e::es.map Cs:=q_js (by simp);rw[Ix];unfold Bv at ci c5 c6 t1 t2 t3 t4 t5 |-;simp only[hb,hi] at ci c5
     repeat' first
     |simp (config:={ maxSteps:=4000000 }) only[go_sem,seval,hb,zx,xb,z5,xqV,Hm,Bo,q_h,q_jk,q_g,if_true,if_false,q_kv,Ap,Dd,List.take_succ_cons,List.take_zero,List.drop_succ_cons,List.drop_zero,q_km,q_kl]
     |refine Ad ci ?_
     |refine Ad c5 ?_
     |refine Ad c6 ?_
     |refine Ad t1 ?_
     |refine Ad t2 ?_
     |refine Ad t3 ?_
     |refine Ad t4 ?_
     |refine Ad t5 ?_
     all_goals first|exact⟨rfl,rfl⟩|rfl
 have hwb:(w==[116,101,114,109])=false:=by simp[hw]
 have hwb2:(w==[101,113,117,97,108])=false:=by simp[hw2]
 have eh:Ky c s=(false,Dv c s1 (s1.k-1)):=by unfold Ky;rw[Jh];simp only[hw,hw2,or_self,if_false,decide_false]
 have cfl:Cp 42 [Bv c s1] [.gp 0 0,.int .i64 (IntKind.i64.wrap ((s1.k:Int)-1))] (.ret (.tup [])) [Bv c (Dv c s1 (s1.k-1))]:=by
  cases Eh:s1.bad with
  |true=>
   have e:Dv c s1 (s1.k-1)=s1:=by unfold Dv Fu;rw[if_pos Eh]
   rw[e];exact Ap3 Eh _
  |false=>
   have Xu:∃k:Nat,s1.k=k+1/\k<c.L.length:=by
    cases hb:s.bad with
    |true=>rw[Zd hb] at Jh;cases Jh;rw[hb] at Eh;cases Eh
    |false=>
     rcases Zf (c:=c) hb 3 with⟨h,h1,_⟩|⟨a,h⟩
     ·rw[Jh] at h;cases h;exact⟨s.k,rfl,h1⟩
     ·rw[Jh] at h;cases h;cases Eh
   obtain⟨k,Gi,hk4⟩:=Xu;have hw3:IntKind.i64.wrap ((s1.k:Int)-1)=((s1.k-1:Nat):Int):=by rw[Gi,w64 (by unfold fit;omega)];omega
   rw[hw3];exact Sh hn _
 have hk9:(Dv c s1 (s1.k-1)).k<=c.L.length:=by unfold Dv Fu;split<;>exact El
 generalize Dv c s1 (s1.k-1)=s9 at *
 unfold Ju;rw[eh];dsimp only;have c2:=He (c:=c) (s:=s9) hn 1;have Fz:=Ig (c:=c) (kd:=1) hk9;generalize Bu c s9 1=q2 at *
 obtain⟨w2,s2⟩:=q2;simp only at *
 generalize hR:Ep c (c.L.length+1) [] s2=R at *
 unfold Bv at c1 c2 cfl |-
 repeat' first
 |simp only[go_sem,seval,hwb,hwb2]
 |refine Ad c1 ?_
 |refine Ad c2 ?_
 |refine Ad cfl ?_
 refine Oh (Ua c false) (fun a=>muQ c a.2) (fun a=>a.2.k<=c.L.length/\a.1.length<=a.2.k+1/\(a.2.bad=false->a.1.length<=a.2.k)/\∃f,muQ c a.2<=f/\Ep c f a.1 a.2=R) (fun a ha=>?_) ([],s2) ⟨Fz,Nat.zero_le _,fun _=>Nat.zero_le _,c.L.length+1,by unfold muQ;split<;>omega,hR⟩ (by rw[Ku];unfold Bv;exact Cw (by simp[Ci]));obtain⟨es,sx⟩:=a;obtain⟨Gz,Dw,Lw,f,hf,hq⟩:=ha;simp only at Gz Dw Lw hf hq;have ci:=Uu (c:=c) (s:=sx) hn 2
 by_cases hgo:sx.bad=false/\isQ c sx 2=false
 ·obtain⟨f,rfl⟩:∃g,f=g+1:=⟨f-1,by unfold muQ at hf;rw[hgo.1,if_neg (by simp)] at hf;omega⟩
  have Va:=Lw hgo.1;rw[Ep,if_pos hgo] at hq;have cl:=Ja (c:=c) (s:=sx) hn;have kl:=Aay (c:=c) Gz;generalize Dk c sx=q3 at *
  obtain⟨i,s3⟩:=q3;simp only at cl kl hq;have ct:=Dn hg.toZo (s:=s3) es.length (by have:=hg.m;have:=hg.l;omega) false (hg.r es.length);have kt:=Abw hg.toZo es.length false (s:=s3) kl.1;generalize Bw c es.length false s3=q4 at *
  obtain⟨t,s4⟩:=q4;simp only at ct kt hq;have hmu:muQ c s4<muQ c sx/\muQ c s4<=f:=by
   unfold muQ at hf |-;simp only[hgo.1,q_kv,if_false] at hf |-;cases Lt:s4.bad with
   |true=>simp only[if_true];omega
   |false=>
    have a1:=kt.2.2 Lt;simp only[q_kv,if_false];have:=kl.2.1;have:=kt.1;omega
  have hk4:es.length+1<=s4.k+1/\(s4.bad=false->es.length+1<=s4.k):=by
   have a1:=kl.2.1;have a2:=kt.2.1;exact⟨by omega,fun Lt=>by have:=kt.2.2 Lt;omega⟩
  have hb:=hgo.1;have hi:=hgo.2;rw[hi] at ci;cases es with
  |nil=>
   rw[Ku];unfold Bv at ci cl ct |-;simp only[hb] at ci cl
   repeat' first
   |simp only[go_sem,seval,hb,Ry,Px,zx,xb,z5,q_km,q_kl]
   |refine Ad ci ?_
   |refine Ad cl ?_
   |refine Ad ct ?_
   refine⟨([(t,i)],s4),⟨hmu.1,kt.1,hk4.1,hk4.2,f,hmu.2,hq⟩,?_⟩;rw[Ix];unfold Bv zx xb z5;exact Jr 5 (by simp[Ci]) (by simp) (by simp[Dt]) (by simp[gOb,Dt])
  |cons e es=>
   have hset:∀u v:List SV,((e::es).map Cs++[u]).set (es.length+1) v=(e::es).map Cs++[v]:=fun u v=>by
    rw[List.set_append_right _ _ (by simp),q_g,q_jk,Nat.sub_self,List.set_cons_zero]
   have Aen:es.length+1<=1000000:=by have:=hg.m;have:=hg.l;simp only[q_jk] at Va;omega
   rw[Ix];unfold Bv at ci cl ct |-;simp only[hb] at ci cl
   repeat' first
   |simp only[go_sem,seval,hb,Ry,Px,zx,xb,z5,q_km,q_kl]
   |refine Ad ci ?_
   |refine Ad cl ?_
   |refine Ad ct ?_
   refine⟨⟨by simp,by omega,by omega⟩,?_⟩;refine⟨(e::(es++[(t,i)]),s4),⟨hmu.1,kt.1,by simpa using hk4.1,fun h=>by simpa using hk4.2 h,f,hmu.2,hq⟩,?_⟩;rw[Ix];unfold Bv zx xb z5;simp only[q_h,q_kr,q_i,q_jr,q_jk,List.length_nil,q_g,q_jg,q_km,q_kl];exact Jr 5 (by simp[Ci]) (by simp) (by simp[Dt]) (by simp[gOb,Dt])
 ·have Hb:Ep c f es sx=(es,sx):=by cases f with
   |zero=>rfl
   |succ f=>rw[Ep,if_neg hgo]
  rw[Hb] at hq;subst hq;dsimp only;have hle:es.length<=1000000:=by have:=hg.m;have:=hg.l;omega
  have Iz:sx.bad=true\/(sx.bad=false/\isQ c sx 2=true):=by
   cases hb:sx.bad with
   |true=>exact .inl rfl
   |false=>
    cases hi:isQ c sx 2 with
    |true=>exact .inr ⟨rfl,rfl⟩
    |false=>exact absurd ⟨hb,hi⟩ hgo
  obtain⟨N,hN⟩:∃N,es.length=N:=⟨_,rfl⟩
  rw[hN] at hle |-;clear Dw Lw hf Hb hR hgo;cases es with
  |nil=>
   obtain rfl:N=0:=by simpa using hN.symm
   rcases Iz with hb|⟨hb,hi⟩
   ·have c5:=He (c:=c) (s:=sx) hn 2;have k5:(Bu c sx 2).2.k<=c.L.length:=Ig Gz;generalize Bu c sx 2=q5 at *
    obtain⟨w5,s5⟩:=q5;dsimp only at c5 k5 |-;have c6:=Ja (c:=c) (s:=s5) hn;generalize Dk c s5=q6 at *
    obtain⟨li,s6⟩:=q6;dsimp only at c6 |-;have t1:=Dn hg.toZo (s:=s6) 0 hle false (hg.r 0);generalize Bw c 0 false s6=q at *
    obtain⟨⟨xq1,yq1,zq1,vq1,lq1⟩,sT1⟩:=q;dsimp only at t1 |-;rw[Bo] at t1;have t2:=Dn hg.toZo (s:=sT1) 0 hle false (hg.r 0);generalize Bw c 0 false sT1=q at *
    obtain⟨⟨xq2,yq2,zq2,vq2,lq2⟩,sT2⟩:=q;dsimp only at t2 |-;rw[Bo] at t2
    first|rw[if_pos (rfl:false=false)]|skip
    rw[Ku];unfold Bv at ci c5 c6 t1 t2 |-;simp only[hb] at ci c5
    repeat' first
    |simp (config:={ maxSteps:=4000000 }) only[go_sem,seval,hb,zx,xb,z5,xqV,Hm,Bo,q_h,q_jk,q_g,if_true,if_false,q_kv,Dd,List.take_succ_cons,List.take_zero,List.drop_succ_cons,List.drop_zero,q_km,q_kl]
    |refine Ad ci ?_
    |refine Ad c5 ?_
    |refine Ad c6 ?_
    |refine Ad t1 ?_
    |refine Ad t2 ?_
    all_goals first|exact⟨rfl,rfl⟩|rfl
   ·have c5:=He (c:=c) (s:=sx) hn 2;have k5:(Bu c sx 2).2.k<=c.L.length:=Ig Gz;generalize Bu c sx 2=q5 at *
    obtain⟨w5,s5⟩:=q5;dsimp only at c5 k5 |-;have c6:=Ja (c:=c) (s:=s5) hn;generalize Dk c s5=q6 at *
    obtain⟨li,s6⟩:=q6;dsimp only at c6 |-;have t1:=Dn hg.toZo (s:=s6) 0 hle false (hg.r 0);generalize Bw c 0 false s6=q at *
    obtain⟨⟨xq1,yq1,zq1,vq1,lq1⟩,sT1⟩:=q;dsimp only at t1 |-;rw[Bo] at t1;have t2:=Dn hg.toZo (s:=sT1) 0 hle false (hg.r 0);generalize Bw c 0 false sT1=q at *
    obtain⟨⟨xq2,yq2,zq2,vq2,lq2⟩,sT2⟩:=q;dsimp only at t2 |-;rw[Bo] at t2
    first|rw[if_pos (rfl:false=false)]|skip
    rw[Ku];unfold Bv at ci c5 c6 t1 t2 |-;simp only[hb,hi] at ci c5
    repeat' first
    |simp (config:={ maxSteps:=4000000 }) only[go_sem,seval,hb,zx,xb,z5,xqV,Hm,Bo,q_h,q_jk,q_g,if_true,if_false,q_kv,Dd,List.take_succ_cons,List.take_zero,List.drop_succ_cons,List.drop_zero,q_km,q_kl]
    |refine Ad ci ?_
    |refine Ad c5 ?_
    |refine Ad c6 ?_
    |refine Ad t1 ?_
    |refine Ad t2 ?_
    all_goals first|exact⟨rfl,rfl⟩|rfl
  |cons e es=>
   obtain rfl:N=es.length+1:=by simpa using hN.symm
   rcases Iz with hb|⟨hb,hi⟩
   ·have c5:=He (c:=c) (s:=sx) hn 2;have k5:(Bu c sx 2).2.k<=c.L.length:=Ig Gz;generalize Bu c sx 2=q5 at *
    obtain⟨w5,s5⟩:=q5;dsimp only at c5 k5 |-;have c6:=Ja (c:=c) (s:=s5) hn;generalize Dk c s5=q6 at *
    obtain⟨li,s6⟩:=q6;dsimp only at c6 |-;have t1:=Dn hg.toZo (s:=s6) (es.length+1) hle false (hg.r (es.length+1));generalize Bw c (es.length+1) false s6=q at *
    obtain⟨⟨xq1,yq1,zq1,vq1,lq1⟩,sT1⟩:=q;dsimp only at t1 |-;rw[Bo] at t1;have t2:=Dn hg.toZo (s:=sT1) (es.length+1) hle false (hg.r (es.length+1));generalize Bw c (es.length+1) false sT1=q at *
    obtain⟨⟨xq2,yq2,zq2,vq2,lq2⟩,sT2⟩:=q;dsimp only at t2 |-;rw[Bo] at t2
    first|rw[if_pos (rfl:false=false)]|skip
    have Ap:List.take (es.length+1) (Cs e::es.map Cs)=Cs e::es.map Cs:=q_js (by simp);rw[Ix];unfold Bv at ci c5 c6 t1 t2 |-;simp only[hb] at ci c5
    repeat' first
    |simp (config:={ maxSteps:=4000000 }) only[go_sem,seval,hb,zx,xb,z5,xqV,Hm,Bo,q_h,q_jk,q_g,if_true,if_false,q_kv,Ap,Dd,List.take_succ_cons,List.take_zero,List.drop_succ_cons,List.drop_zero,q_km,q_kl]
    |refine Ad ci ?_
    |refine Ad c5 ?_
    |refine Ad c6 ?_
    |refine Ad t1 ?_
    |refine Ad t2 ?_
    all_goals first|exact⟨rfl,rfl⟩|rfl
   ·have c5:=He (c:=c) (s:=sx) hn 2;have k5:(Bu c sx 2).2.k<=c.L.length:=Ig Gz;generalize Bu c sx 2=q5 at *
    obtain⟨w5,s5⟩:=q5;dsimp only at c5 k5 |-;have c6:=Ja (c:=c) (s:=s5) hn;generalize Dk c s5=q6 at *
    obtain⟨li,s6⟩:=q6;dsimp only at c6 |-;have t1:=Dn hg.toZo (s:=s6) (es.length+1) hle false (hg.r (es.length+1));generalize Bw c (es.length+1) false s6=q at *
    obtain⟨⟨xq1,yq1,zq1,vq1,lq1⟩,sT1⟩:=q;dsimp only at t1 |-;rw[Bo] at t1;have t2:=Dn hg.toZo (s:=sT1) (es.length+1) hle false (hg.r (es.length+1));generalize Bw c (es.length+1) false sT1=q at *
    obtain⟨⟨xq2,yq2,zq2,vq2,lq2⟩,sT2⟩:=q;dsimp only at t2 |-;rw[Bo] at t2
    first|rw[if_pos (rfl:false=false)]|skip
    have Ap:List.take (es.length+1) (Cs e::es.map Cs)=Cs e::es.map Cs:=q_js (by simp);rw[Ix];unfold Bv at ci c5 c6 t1 t2 |-;simp only[hb,hi] at ci c5
    repeat' first
    |simp (config:={ maxSteps:=4000000 }) only[go_sem,seval,hb,zx,xb,z5,xqV,Hm,Bo,q_h,q_jk,q_g,if_true,if_false,q_kv,Ap,Dd,List.take_succ_cons,List.take_zero,List.drop_succ_cons,List.drop_zero,q_km,q_kl]
    |refine Ad ci ?_
    |refine Ad c5 ?_
    |refine Ad c6 ?_
    |refine Ad t1 ?_
    |refine Ad t2 ?_
    all_goals first|exact⟨rfl,rfl⟩|rfl
end
open Go Go.RowKit
section
variable{c:RC}{T:TR}{B:Nat}
structure AtB(c:RC)(B:Nat):Prop where
 e:c.e<=B
 p:∀k,k<c.L.length->(c.tk k).p<=B
def Mm(h:AtB c B){s:RS}(hs:s.at_<=B)(k:Nat):(Cu c s k).at_<=B:=by
 unfold Cu;split
 ·exact hs
 ·dsimp only;split
  ·rename_i hk;exact h.p k hk
  ·exact h.e
def Rd(h:AtB c B){s:RS}(hs:s.at_<=B)(k:Nat):(Ai c s k).2.at_<=B:=by
 unfold Ai;split
 ·exact hs
 ·exact Mm h hs _
def Asa(h:AtB c B){lev:RS->Nat×RS}(hl:∀s,s.at_<=B->(lev s).2.at_<=B){s:RS}(hs:s.at_<=B):(Ie c lev s).2.at_<=B:=by
 unfold Ie;refine Rd h ?_ 2;split
 ·exact hl s.nx hs
 split
 ·exact hl _ (hl s.nx hs)
 ·exact Mm h hs _
def Aa0(h:AtB c B):∀(f:Nat) {s:RS},s.at_<=B->(Cn c f s).2.at_<=B:=by
 intro f
 induction f with
 |zero=>intro s hs;exact hs
 |succ f ih=>
  intro s hs;unfold Cn;have key:∀(q:Nat×RS),q.2.at_<=B->(if q.2.bad=false/\1000<q.1 then Cu c q.2 s.k else q.2).at_<=B:=fun q hq=>by
   split
   ·exact Mm h hq _
   ·exact hq
  split
  ·refine key _ ?_
   repeat' split
   ·exact hs
   ·exact hs
   ·exact hs
   ·exact Asa h (fun s hs=>ih hs) hs
   ·exact Mm h hs _
  ·exact Mm h hs _
def Ass(h:AtB c B){s:RS}(hs:s.at_<=B)(ns:List By):(Jn c ns s).2.at_<=B:=by
 unfold Jn;split
 ·exact hs
 ·exact Mm h hs _
def Ase(hT:∀ns w s,s.at_<=B->(T ns w s).2.at_<=B)(ns:List By):∀(m:Nat) {s:RS},s.at_<=B->(Fo T ns m s).2.at_<=B:=by
 intro m
 induction m with
 |zero=>intro s hs;exact hs
 |succ m ih=>intro s hs;exact ih (hT _ _ _ hs)
def Ara(h:AtB c B)(hT:∀ns w s,s.at_<=B->(T ns w s).2.at_<=B)(ns:List By)(k:Nat)(ch:UInt8)(x:AccR){s:RS}(hs:s.at_<=B):(Ds c T ns k ch x s).2.at_<=B:=by
 unfold Ds;split
 ·exact Aa0 h _ hs
 split
 ·split
  ·exact Ase hT ns (arN x.n) (s:={ (Cn c (c.L.length+1) s).2 with D:=[] }) (Aa0 h _ hs)
  ·exact Aa0 h _ hs
 split
 ·dsimp only;split
  ·exact Rd h hs 3
  ·exact Mm h (Rd h hs 3) _
 repeat' split
 ·exact Rd h hs 3
 ·exact hT _ _ _ hs
 ·exact hT _ _ _ hs
 ·exact hT _ _ _ hs
def Ar4(h:AtB c B)(hT:∀ns w s,s.at_<=B->(T ns w s).2.at_<=B)(ns:List By)(k:Nat):∀(sh:By) (x:AccR) {s:RS},s.at_<=B->(Ea c T ns k sh x s).2.at_<=B:=by
 intro sh
 induction sh with
 |nil=>intro x s hs;exact hs
 |cons ch r ih=>
  intro x s hs;rw[Ea];split
  ·exact hs
  ·exact ih _ (Ara h hT ns k ch x hs)
def Avh(h:AtB c B):∀(f:Nat) (ns:List By) (w:Nat) (s:RS),s.at_<=B->(En c f ns w s).2.at_<=B:=by
 intro f
 induction f with
 |zero=>intro ns w s hs;exact hs
 |succ f ih=>
  intro ns w s hs;rw[En];split
  ·exact hs
  split
  ·exact Mm h hs _
  split
  ·exact Ass h hs ns
  dsimp only;have h1:=Rd h hs 1;have h2:=Rd h h1 3;split
  ·exact h2
  split
  ·exact Mm h h2 _
  ·exact Rd h (Ar4 h ih ns _ _ _ h2) 2
end
def rc_L(tx:By)(i j:Nat):(rcR tx i j).L=(Bs tx).1/\(rcR tx i j).e=((Bs tx).2).getD tx.length:=by
 unfold rcR De;cases h:Bs tx with
 |mk ts e=>
  cases e with
  |none=>simp
  |some p=>simp[Af2 h]
def Aa3(tx:By):((Bs tx).2).getD tx.length<=tx.length:=by
 have h:=(Li tx).le.2.2;cases he:(Bs tx).2 with
 |none=>exact q_ja _
 |some p=>exact Nat.le_of_lt (h p he).1
def Af4(tx:By){k:Nat}(hk:k<(Bs tx).1.length):((Bs tx).1.getD k tk0).p+((Bs tx).1.getD k tk0).w.length<=tx.length:=by
 have h:=(Li tx).ends.2 k hk;have:=Aa3 tx;omega
def Ag2{tx:By}{ns:List By}{i j p:Nat}{t:Tm}(h:Gn tx ns i j=(t,some p)):p<=tx.length:=by
 obtain⟨h1,h2⟩:=rc_L tx i j;have hB:AtB (rcR tx i j) tx.length:=⟨by rw[h2];exact Aa3 tx,fun k hk=>by
  rw[h1] at hk;have:=Af4 tx hk;show ((rcR tx i j).L.getD k tk0).p<=_;rw[h1];omega⟩
 unfold Gn at h;dsimp only at h;have hq:=Avh hB ((rcR tx i j).L.length+1) ns 0 ⟨0,false,0,[]⟩ (Nat.zero_le _);generalize En (rcR tx i j) ((rcR tx i j).L.length+1) ns 0 ⟨0,false,0,[]⟩=q at h hq;have hs:(if q.2.bad=false/\(q.2.k<(rcR tx i j).L.length\/(Bs tx).2.isSome=true) then Cu (rcR tx i j) q.2 q.2.k else q.2).at_<=tx.length:=by
  split
  ·exact Mm hB hq _
  ·exact hq
 generalize (if q.2.bad=false/\(q.2.k<(rcR tx i j).L.length\/(Bs tx).2.isSome=true) then Cu (rcR tx i j) q.2 q.2.k else q.2)=s at h hs
 by_cases hb:s.bad=true
 ·rw[if_pos hb] at h;cases h;exact hs
 ·rw[if_neg hb] at h;cases h
def Al6{d:Nat}:∀(l:List Tok) (n:Nat),dep n (l.map (Tok.back d))=dep n l:=by
 intro l
 induction l with
 |nil=>intro n;rfl
 |cons t l ih=>
  intro n;show dep (Nn n (t.back d)) _=dep (Nn n t) l;rw[ih];rfl
def goodP(tx:By)(hm:tx.length<=3000):GoodP (qcR tx):=by
 obtain⟨hL,ht,he⟩:=qc_L tx;have hlx:=Li tx;have hle:=hlx.le.2.1;have tk:∀k,(qcR tx).tk k=(Bs tx).1.getD k tk0:=fun k=>by unfold QC.tk;rw[hL];rfl
 refine⟨⟨by rw[ht];omega,by rw[hL,ht];omega,by rw[he,ht];exact Aa3 tx,?_,?_,?_⟩,?_,by rw[ht];omega⟩
 ·intro k hk;rw[tk,ht];rw[hL] at hk;exact Af4 tx hk
 ·intro k q hk hq;unfold Hc at hq;rw[hL] at hk hq |-;obtain⟨q1,q2⟩:=Au2 _ _ _ _ hq;rw[q_kg] at q2;refine⟨q1,by omega,?_⟩;rw[tk,tk];have:=hlx.order (k:=k) (k':=q-1) (by omega) (by omega);omega
 ·intro k ns hk hq;unfold Hc at hq;rw[hL] at hk hq;rw[ht,tk];rw[q_js (by rw[q_kg];exact q_ja _)];cases hr:Gn (tx.drop ((Bs tx).1.getD k tk0).p) ns 0 0 with
  |mk t o=>
   cases o with
   |some p=>exact⟨t,p,rfl⟩
   |none=>
    exfalso;obtain⟨g1,g2,_⟩:=Ag3 hr;have hx:=Ars hk;unfold De at g2;rw[hx] at g1 g2;dsimp only at g1;rw[g1] at g2;dsimp only at g2;rw[Al6] at g2;rcases Au3 _ _ _ hq with h0|h0
    ·have:=congrArg List.length h0;rw[q_kg,List.length_nil] at this;omega
    ·exact h0 g2
 ·intro n k p t h;have:=Ag2 h;rw[q_kf,q_kg] at this;rw[ht] at this |-;omega
section
variable{c:QC}{s:QS}
def Ags{B p:Nat}(hp:p<=B)(hs:s.at_<=B):(Fu s p).at_<=B:=by
 unfold Fu;split
 ·exact hs
 ·exact hp
def Rz(hg:GoodP c)(hs:s.at_<=c.tx.length)(k:Nat):(Dv c s k).at_<=c.tx.length:=by
 unfold Dv;refine Ags ?_ hs;split
 ·rename_i hk;have:=hg.p k hk;omega
 ·exact hg.e
def To(hg:GoodP c)(hs:s.at_<=c.tx.length)(k:Nat):(Bu c s k).2.at_<=c.tx.length:=by
 unfold Bu;split
 ·exact hs
 ·exact Rz hg hs _
def Af1(hg:GoodP c)(hs:s.at_<=c.tx.length):(Dk c s).2.at_<=c.tx.length:=by
 unfold Dk;have h1:=To hg hs 4;dsimp only;split
 ·exact Rz hg h1 _
 ·exact h1
def Tq(hg:GoodP c)(hs:s.at_<=c.tx.length)(n:Nat)(pl:Bool):(Bw c n pl s).2.at_<=c.tx.length:=by
 unfold Bw;split;rotate_left
 ·exact Rz hg hs _
 rename_i h0;split
 ·exact Rz hg hs _
 cases hz:Gn ((c.tx.drop (c.tk s.k).p).take (Du c s.k-(c.tk s.k).p)) (Ff n) 0 0 with
 |mk t o=>
  cases o with
  |none=>exact hs
  |some p=>
   dsimp only;refine Ags ?_ hs;have h1:=Ag2 hz;have h2:=hg.p s.k h0.2;rw[q_kf,q_kg] at h1;omega
def Aln(hg:GoodP c):∀(f:Nat) (es:List (Tm×Nat)) {s:QS},s.at_<=c.tx.length->(Ep c f es s).2.at_<=c.tx.length:=by
 intro f
 induction f with
 |zero=>intro es s hs;exact hs
 |succ f ih=>
  intro es s hs;rw[Ep];split
  ·exact ih _ (Tq hg (Af1 hg hs) _ _)
  ·exact hs
def Aqp(hg:GoodP c)(hs:s.at_<=c.tx.length):(Ky c s).2.at_<=c.tx.length:=by
 unfold Ky;have h1:=To hg hs 3;dsimp only;split
 ·exact h1
 ·exact Rz hg h1 _
def Ai7(hg:GoodP c)(hs:s.at_<=c.tx.length):(Ju c s).2.at_<=c.tx.length:=by
 unfold Ju;dsimp only;have h1:=Aqp hg hs;have h2:=To hg h1 1;have h3:=Aln hg (c.L.length+1) [] h2;have h4:=To hg h3 2;have h5:=Af1 hg h4;have h6:=Tq hg h5 (Ep c (c.L.length+1) [] (Bu c (Ky c s).2 1).2).1.length false;have h7:=Tq hg h6 (Ep c (c.L.length+1) [] (Bu c (Ky c s).2 1).2).1.length false;split
 ·exact h7
 ·exact Tq hg (Tq hg (Tq hg h7 _ _) _ _) _ _
end
def Auj{tx:By}(hm:tx.length<=3000){x:XQ}{p:Nat}(h:Pn tx=(x,some p)):p<=tx.length:=by
 have hg:=goodP tx hm;have ht:=(qc_L tx).2.1;unfold Pn at h;dsimp only at h;have h1:=To (s:=⟨0,false,0⟩) hg (Nat.zero_le _) 1;have h2:=Ai7 hg h1;have h3:=To hg h2 2;generalize (Bu (qcR tx) (Ju (qcR tx) (Bu (qcR tx) ⟨0,false,0⟩ 1).2).2 2).2=s at h h3;have h4:(if s.bad=false/\(s.k<(qcR tx).L.length\/(Bs tx).2.isSome=true) then Dv (qcR tx) s s.k else s).at_<=tx.length:=by
  rw[ht] at h3;split
  ·have:=Rz hg (by rw[ht];exact h3) s.k
   rwa [ht] at this
  ·exact h3
 have h5:=congrArg Prod.snd h;dsimp only at h5;generalize (if s.bad=false/\(s.k<(qcR tx).L.length\/(Bs tx).2.isSome=true) then Dv (qcR tx) s s.k else s)=S at h4 h5
 by_cases hb:S.bad=true
 ·rw[if_pos hb] at h5;cases h5;exact h4
 ·rw[if_neg hb] at h5;cases h5
section
variable{c:QC}{s:QS}
def Agt{p:Nat}:(Fu s p).bad=true:=by unfold Fu;split;assumption;rfl
def Sa{k:Nat}:(Dv c s k).bad=true:=Agt
def Ze{kd:Nat}(h:(Bu c s kd).2.bad=false):s.bad=false:=by
 unfold Bu at h;split at h
 ·rename_i hc;exact hc.1
 ·rw[Sa] at h;cases h
def Aaz(h:(Dk c s).2.bad=false):s.bad=false/\(Dk c s).1<=1000:=by
 unfold Dk at h |-;dsimp only at h |-
 by_cases hc:1000<(Eg (Bu c s 4).1).getD 0
 ·rw[if_pos hc,Sa] at h;cases h
 ·rw[if_neg hc] at h;exact⟨Ze h,by omega⟩
def other_forms:(∀x∈formsG,Pm x.1 false=false->Hv (x.2.1:Nat)=0\/Hv (x.2.1:Nat)=1)/\(∀x∈formsG,Pm x.1 true=false->Hv (x.2.1:Nat)=0\/Hv (x.2.1:Nat)=2):=by decide
def plQ(pl:Bool):Nat:=if pl then 2 else 1
def Tr{tx:By}(hm:tx.length<=3000){n:Nat}(hn:n<=1000000){pl:Bool}{s:QS}(h:(Bw (qcR tx) n pl s).2.bad=false):s.bad=false/\GT n (plQ pl) 3001 (Bw (qcR tx) n pl s).1:=by
 have hg:=goodP tx hm;obtain⟨hL,ht,he⟩:=qc_L tx;have tk:∀k,(qcR tx).tk k=(Bs tx).1.getD k tk0:=fun k=>by unfold QC.tk;rw[hL];rfl
 unfold Bw at h |-;split at h;rotate_left
 ·rw[Sa] at h;cases h
 rename_i h0;rw[if_pos h0];split at h
 ·rw[Sa] at h;cases h
 rename_i h1;rw[if_neg h1];refine⟨h0.1,?_⟩;cases hz:Gn (((qcR tx).tx.drop ((qcR tx).tk s.k).p).take (Du (qcR tx) s.k-((qcR tx).tk s.k).p)) (Ff n) 0 0 with
 |mk t o=>
  rw[hz] at h;cases o with
  |some p=>dsimp only at h;rw[Agt] at h;cases h
  |none=>
   dsimp only;cases hq:Hc (qcR tx) s.k with
   |none=>
    obtain⟨t2,p,hz2⟩:=hg.z s.k (Ff n) h0.2 hq;have hE:Du (qcR tx) s.k=(qcR tx).tx.length:=by unfold Du;rw[hq]
    rw[hE,hz2] at hz;cases hz
   |some q=>
    obtain⟨q1,q2,q3⟩:=hg.cl s.k q h0.2 hq;have hE:Du (qcR tx) s.k=((qcR tx).tk (q-1)).p+((qcR tx).tk (q-1)).w.length:=by unfold Du;rw[hq]
    have hk:=h0.2;rw[hE,ht,tk,tk] at hz;rw[hL] at q2 hk h1;have hp:=Arr q1 q2;obtain⟨g1,_,g3,s',g4,g5⟩:=Ag3 hz;have Bf:((tx.drop ((Bs tx).1.getD s.k tk0).p).take (((Bs tx).1.getD (q-1) tk0).p+((Bs tx).1.getD (q-1) tk0).w.length-((Bs tx).1.getD s.k tk0).p)).length<=3000:=by
     rw[q_kf,q_kg];omega
    obtain⟨r1,r2,r3,r4⟩:=g3 (by rw[Abc];omega);rw[Abc] at r2;refine⟨?_,r2,r3,by omega⟩;have Yc:=(rc_L ((tx.drop ((Bs tx).1.getD s.k tk0).p).take (((Bs tx).1.getD (q-1) tk0).p+((Bs tx).1.getD (q-1) tk0).w.length-((Bs tx).1.getD s.k tk0).p)) 0 0).1;rw[hp] at Yc;dsimp only at Yc;have tok:∀x,s.k+x<q->((rcR ((tx.drop ((Bs tx).1.getD s.k tk0).p).take (((Bs tx).1.getD (q-1) tk0).p+((Bs tx).1.getD (q-1) tk0).w.length-((Bs tx).1.getD s.k tk0).p)) 0 0).tk x)=((Bs tx).1.getD (s.k+x) tk0).back ((Bs tx).1.getD s.k tk0).p:=fun x hx=>by
     show (rcR _ 0 0).L.getD x tk0=_;rw[Yc];simp only[q_j,q_ji];rw[List.getElem?_take_of_lt (by omega),q_kj,q_f (show s.k+x<(Bs tx).1.length by omega)];rfl
    have hcl:(rcR ((tx.drop ((Bs tx).1.getD s.k tk0).p).take (((Bs tx).1.getD (q-1) tk0).p+((Bs tx).1.getD (q-1) tk0).w.length-((Bs tx).1.getD s.k tk0).p)) 0 0).L.length=q-s.k:=by
     rw[Yc,q_g,q_kf,q_kg];omega
    rcases Aup g4 g5 with⟨m,rfl⟩|⟨a1,a2,a3,gk,sh,a,b,m,l,a4,rfl⟩
    ·exact Abm r1 (.inl rfl)
    ·rw[hcl] at a2;rw[tok 0 (by omega)] at a1;rw[tok 1 (by omega)] at a3 a4;have ho:Pm ((Bs tx).1.getD (s.k+1) tk0).w pl=false:=by
      rw[tk,tk] at h1;cases ho:Pm ((Bs tx).1.getD (s.k+1) tk0).w pl with
      |false=>rfl
      |true=>exact absurd ⟨a1,by omega,a3,ho⟩ h1
     refine Abm r1 ?_;cases pl with
     |false=>exact other_forms.1 _ a4 ho
     |true=>exact other_forms.2 _ a4 ho
def EnOK(es:List (Tm×Nat)):Prop:=∀k,k<es.length->(es.getD k (zR,0)).2<=1000/\GT k 1 3001 (es.getD k (zR,0)).1
def EnOK.put{es:List (Tm×Nat)}(h:EnOK es){t:Tm}{i:Nat}(ht:GT es.length 1 3001 t)(hi:i<=1000):EnOK (es++[(t,i)]):=by
 intro k hk;rw[q_jr,List.length_singleton] at hk
 by_cases h2:k<es.length
 ·have:=h k h2;simp only[q_j,q_jf h2] at this |-;exact this
 ·obtain rfl:k=es.length:=by omega
  simp only[q_j,List.getElem?_concat_length,q_jz];exact⟨hi,ht⟩
def Alo{tx:By}(hm:tx.length<=3000):∀(f:Nat) (es:List (Tm×Nat)) (s:QS),es.length+f<=4000->EnOK es->(Ep (qcR tx) f es s).2.bad=false->s.bad=false/\EnOK (Ep (qcR tx) f es s).1/\(Ep (qcR tx) f es s).1.length<=4000:=by
 intro f
 induction f with
 |zero=>intro es s hl hE h;exact⟨h,hE,hl⟩
 |succ f ih=>
  intro es s hl hE h;rw[Ep] at h |-
  by_cases hc:s.bad=false/\isQ (qcR tx) s 2=false
  ·rw[if_pos hc] at h |-;have hb:(Bw (qcR tx) es.length false (Dk (qcR tx) s).2).2.bad=false:=by
    cases hb:(Bw (qcR tx) es.length false (Dk (qcR tx) s).2).2.bad with
    |false=>rfl
    |true=>
     exfalso;cases f with
     |zero=>rw[Ep] at h;rw[hb] at h;cases h
     |succ f=>rw[Ep,if_neg (fun k=>by rw[hb] at k;cases k.1)] at h;rw[hb] at h;cases h
   obtain⟨t1,t2⟩:=Tr hm (by omega) hb;obtain⟨l1,l2⟩:=Aaz t1;have:=ih _ _ (by rw[q_jr,List.length_singleton];omega) (hE.put t2 l2) h;exact⟨l1,this.2⟩
  ·rw[if_neg hc] at h |-;exact⟨h,hE,by dsimp only;omega⟩
end
structure XOK(x:XQ):Prop where
 c:EnOK x.ctx
 n:x.ctx.length<=4000
 i:x.i<=1000
 a:GT x.ctx.length 1 3001 x.a
 u:GT x.ctx.length 1 3001 x.u
 q:x.eq=true->GT x.ctx.length 1 3001 x.b/\GT x.ctx.length 1 3001 x.v/\GT x.ctx.length 2 3001 x.h
def Ai8{tx:By}(hm:tx.length<=3000){s:QS}(h:(Ju (qcR tx) s).2.bad=false):XOK (Ju (qcR tx) s).1:=by
 have Bf:(qcR tx).L.length<=3000:=by have:=(goodP tx hm).l;rw[(qc_L tx).2.1] at this;omega
 have Si:=fun s=>Alo hm ((qcR tx).L.length+1) [] s (by rw[List.length_nil];omega) (fun k hk=>absurd hk (Nat.not_lt_zero _))
 unfold Ju at h |-;dsimp only at h |-;generalize (Bu (qcR tx) (Ky (qcR tx) s).2 1).2=s1 at h |-;have Si:=Si s1;generalize Ep (qcR tx) ((qcR tx).L.length+1) [] s1=e at h Si |-;obtain⟨es,s2⟩:=e;dsimp only at h Si |-;have back:(Bw (qcR tx) es.length false (Bw (qcR tx) es.length false (Dk (qcR tx) (Bu (qcR tx) s2 2).2).2).2).2.bad=false->EnOK es/\es.length<=4000/\(Dk (qcR tx) (Bu (qcR tx) s2 2).2).1<=1000 /\
   GT es.length 1 3001 (Bw (qcR tx) es.length false (Dk (qcR tx) (Bu (qcR tx) s2 2).2).2).1/\GT es.length 1 3001 (Bw (qcR tx) es.length false (Bw (qcR tx) es.length false (Dk (qcR tx) (Bu (qcR tx) s2 2).2).2).2).1:=fun hb=>by
  have Mq:es.length<=1000000:=by
   by_cases h0:s2.bad=false
   ·have:=(Si h0).2.2;omega
   ·exfalso;have q:∀n,(Bw (qcR tx) n false (Bw (qcR tx) n false (Dk (qcR tx) (Bu (qcR tx) s2 2).2).2).2).2.bad=false->s2.bad=false:=fun n hb=>by
     have tb:∀(s:QS),(Bw (qcR tx) n false s).2.bad=false->s.bad=false:=fun s hs=>by
      unfold Bw at hs;split at hs
      ·rename_i k;exact k.1
      ·rw[Sa] at hs;cases hs
     exact Ze (Aaz (tb _ (tb _ hb))).1
    exact h0 (q _ hb)
  obtain⟨t1,t2⟩:=Tr hm Mq hb;obtain⟨t3,t4⟩:=Tr hm Mq t1;obtain⟨l1,l2⟩:=Aaz t3;obtain⟨c1,c2,c3⟩:=Si (Ze l1);exact⟨c2,c3,l2,t4,t2⟩
 split at h
 ·rename_i hd;rw[if_pos hd];obtain⟨g1,g2,g3,g4,g5⟩:=back h;exact⟨g1,g2,g3,g5,g4,fun hq=>by cases hq⟩
 ·rename_i hd;rw[if_neg hd];have tb:∀(s:QS) (n:Nat) (pl:Bool),(Bw (qcR tx) n pl s).2.bad=false->s.bad=false:=fun s n pl hs=>by
   unfold Bw at hs;split at hs
   ·rename_i k;exact k.1
   ·rw[Sa] at hs;cases hs
  have h4:=tb _ _ _ h;have h3:=tb _ _ _ h4;have h2:=tb _ _ _ h3;obtain⟨g1,g2,g3,g4,g5⟩:=back h2;have Mq:es.length<=1000000:=by omega
  exact⟨g1,g2,g3,g4,g5,fun _=>⟨(Tr hm Mq h3).2,(Tr hm Mq h4).2,(Tr hm Mq h).2⟩⟩
def Ag5{tx:By}(hm:tx.length<=3000){x:XQ}(h:Pn tx=(x,none)):XOK x:=by
 unfold Pn at h;dsimp only at h;have h5:=congrArg Prod.snd h;have h6:=congrArg Prod.fst h;dsimp only at h5 h6;subst h6;refine Ai8 hm ?_;generalize Ju (qcR tx) (Bu (qcR tx) ⟨0,false,0⟩ 1).2=b at h5 |-;refine Ze (c:=qcR tx) (kd:=2) ?_;generalize (Bu (qcR tx) b.2 2).2=s at h5 |-;cases hb:s.bad with
 |false=>rfl
 |true=>
  have e:(if s.bad=false/\(s.k<(qcR tx).L.length\/(Bs tx).2.isSome=true) then Dv (qcR tx) s s.k else s)=s:=if_neg (fun k=>by rw[hb] at k;cases k.1);rw[e,if_pos hb] at h5;cases h5
end Go.Proofs.YtgfehkhcmnfpaaaGreatDoor.Abs
