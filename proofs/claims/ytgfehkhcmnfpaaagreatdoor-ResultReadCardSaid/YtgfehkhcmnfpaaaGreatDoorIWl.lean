import Derived.Test.YtgfehkhcmnfpaaaGreatDoorIOu
import Derived.Lib.ItoaLen
import Derived.Test.YtgfehkhcmnfpaaaGreatDoorIOt
set_option linter.all false
set_option maxRecDepth 20000
set_option maxHeartbeats 4000000
namespace Go.Proofs.YtgfehkhcmnfpaaaGreatDoor.Abs
open Go Go.RowKit Go.Proofs.YtgfehkhcmnfpaaaGreatDoor
def Ap4(w:By)(pl:Bool):Con 123 [.str (bs w),.bool pl] (.bool (Mr w pl)):=by
 refine Cu mixed Tryz.func123 tr123 ?_;simp only[go_sem,seval]
 iterate 21
  refine⟨fun h=>?_,fun h=>?_⟩
  ·have h2:=eq_of_beq h;subst h2;simp only[go_sem,seval];cases pl<;>rfl
  replace h:=Ae3 h;simp only[go_sem,seval]
 have h1:w ∉ Zu:=by simp only[Zu,q_kb,q_kc,or_false,not_or];exact⟨by assumption,by assumption,by assumption,by assumption,by assumption,by assumption,by assumption,by assumption,by assumption,by assumption⟩
 have h2:w ∉ Zy:=by simp only[Zy,q_kb,q_kc,or_false,not_or];exact⟨by assumption,by assumption,by assumption,by assumption,by assumption,by assumption,by assumption,by assumption,by assumption,by assumption,by assumption⟩
 unfold Mr;rw[if_neg h1,if_neg h2]
section
variable{c:QC}{s:QS}
def Mb(o:Option Nat):Int:=match o with|some q=>q|none=>-1
def Avg(hn:c.L.length<100000000000)(hk:s.k<=c.L.length):Cj 124 [Co c s] [.gp 0 0] (.ret (.int .i64 (Mb (Gk c s.k)))) [Co c s]:=by
 refine Bq mixed Tryz.func124 tr124 ?_;have a10:(c.L.length<=140737488355328)=True:=by simp;omega
 unfold Co Gk;simp only[go_sem,seval];refine Hv (fun a:Nat×Nat=>⟨(.gp 0 0::.J::.J::.int .i64 a.2::.int .i64 a.1::Cm (.J::[])),[gOb [[.str (bs c.tx),.dsl 3 (c.L.map De),.int .i64 s.k,.int .i64 c.e,.bool s.bad,.int .i64 s.at_]]]⟩) (fun a=>c.L.length-a.1) (fun a=>s.k<=a.1/\a.1<=c.L.length/\a.2<=a.1/\Mt (c.L.drop a.1) a.1 a.2=Mt (c.L.drop s.k) s.k 0) (fun a ha=>?_) (s.k,0) ⟨q_ja _,hk,Nat.zero_le _,rfl⟩ (Bv (by simp[Bm]));obtain⟨x,d⟩:=a;obtain⟨h1,h2,h3,h4⟩:=ha;simp only at h1 h2 h3 h4;rw[<-h4]
 by_cases h:x<c.L.length
 ·obtain⟨a1,a2,a3,a4,a6,a7,a8,a9⟩:=qAt hn h;have hd:c.L.drop x=c.tk x::c.L.drop (x+1):=by
   rw[List.drop_eq_getElem_cons h];unfold QC.tk;rw[q_j,q_f h];rfl
  rw[hd,Mt];have wd1:IntKind.i64.wrap ((d:Int)+1)=((d+1:Nat):Int):=by rw[w64 (by unfold fit;omega)];omega
  have wd2:IntKind.i64.wrap ((d:Int)-1)=(d:Int)-1:=by rw[w64 (by unfold fit;omega)]
  by_cases k1:(c.tk x).k=1
  ·have e1:(((c.tk x).k:Int)==1)=true:=by simp[k1]
   rw[if_pos k1,if_neg (Nat.succ_ne_zero d)];simp only[go_sem,seval,a1,a2,a3,a4,a6,a9,q_g,e1,wd1,q_je (show ¬((d+1:Nat):Int)<=0 by omega),forall_const];refine⟨(x+1,d+1),⟨by simp only;omega,by simp only;omega,by simp only;omega,by simp only;omega,?_⟩,Bv (by simp[Bm])⟩;rfl
  ·have e1:(((c.tk x).k:Int)==1)=false:=by simp;omega
   rw[if_neg k1]
   by_cases k2:(c.tk x).k=2
   ·have e2:(((c.tk x).k:Int)==2)=true:=by simp[k2]
    rw[if_pos k2]
    by_cases Rx:d-1=0
    ·rw[if_pos Rx];simp only[go_sem,seval,a1,a2,a3,a4,a6,a9,q_g,e1,e2,wd2,q_jn (show (d:Int)-1<=0 by omega),forall_const];rfl
    ·rw[if_neg Rx];simp only[go_sem,seval,a1,a2,a3,a4,a6,a9,q_g,e1,e2,wd2,q_je (show ¬(d:Int)-1<=0 by omega),forall_const];refine⟨(x+1,d-1),⟨by simp only;omega,by simp only;omega,by simp only;omega,by simp only;omega,?_⟩,?_⟩
     ·rfl
     ·rw[show (d:Int)-1=((d-1:Nat):Int) by omega];exact Bv (by simp[Bm])
   ·have e2:(((c.tk x).k:Int)==2)=false:=by simp;omega
    rw[if_neg k2]
    by_cases Rx:d=0
    ·subst Rx;rw[if_pos rfl];simp only[go_sem,seval,a1,a2,a3,a4,a6,a9,q_g,e1,e2,forall_const];rfl
    ·rw[if_neg Rx];simp only[go_sem,seval,a1,a2,a3,a4,a6,a9,q_g,e1,e2,q_je (show ¬(d:Int)<=0 by omega),forall_const];refine⟨(x+1,d),⟨by simp only;omega,by simp only;omega,by simp only;omega,by simp only;omega,?_⟩,Bv (by simp[Bm])⟩;rfl
 ·have hx:c.L.drop x=[]:=List.drop_eq_nil_of_le (by omega);rw[hx];simp only[go_sem,seval,a10,(show ¬(x:Int)<(c.L.length:Int) by omega),q_g,forall_const];rfl
end
def Aav(n:Nat)(hn:n<1000000000):(Lib.itoa (n:Nat)).length<=21:=Lib.itoa_length_le n (by omega) (by omega)
def Apv(n:Nat)(hn:n<1000000000):Con 97 [.int .i64 n] (.str (bs (118::Lib.itoa (n:Nat)))):=by
 have cp:=Acb (n:=(n:Int)) ⟨by omega,by omega⟩;have hl:=Aav n hn;refine Cu mixed Tryz.func97 tr97 ?_;simp only[go_sem,seval];refine Ag cp ?_;simp only[go_sem,seval,(show 1+(Lib.itoa (n:Nat)).length<=9223372036854775807 by omega)]
def Nw(n x:Nat):GV:=((List.range x).map fun i=>[SV.str (bs (118::Lib.itoa (i:Nat)))])++List.replicate (n-x) [.str (bs [])]
def Alx{n x:Nat}(h:x<=n):(Nw n x).length=n:=by unfold Nw;simp;omega
def A1g{n x:Nat}(h:x<n):(Nw n x).set x [SV.str (bs (118::Lib.itoa (x:Nat)))]=Nw n (x+1):=by
 unfold Nw;rw[List.set_append_right _ _ (by simp)];rw[q_g,List.length_range,Nat.sub_self,show n-x=n-(x+1)+1 by omega,List.replicate_succ,List.set_cons_zero,List.range_succ,q_kt,q_ju];rfl
def A1e{n x:Nat}(h:x<n):(Nw n x)[x]?.getD []=[.str (bs [])]:=by
 unfold Nw;rw[q_jj (by simp),q_g,List.length_range,Nat.sub_self,show n-x=n-(x+1)+1 by omega,List.replicate_succ];rfl
def A1f(n:Nat):SV.dsl 1 (Nw n n)=nmG (Di n):=by
 unfold Nw nmG Di;simp only[Nat.sub_self,List.replicate_zero,q_k,List.reverse_reverse,List.map_map];rfl
def Apx(n:Nat)(hn:n<=1000000):Con 126 [.int .i64 n] (nmG (Di n)):=by
 refine Cu mixed Tryz.func126 tr126 ?_;simp only[go_sem,seval,(show ¬(n:Int)<0 by omega),q_je (show ¬(n:Int) > 1000000 by omega)];refine⟨⟨by omega,by omega,by omega,by omega⟩,?_⟩;refine Nz (fun x=>⟨(.int .i64 n::.J::.J::.osl 0 0 0 n::jk8 (jk2 (.int .i64 n::.int .i64 x::jk8 (.J::[])))),[{ box:=false,sz:=1,els:=Nw n x,frz:=0,gen:=0,cl:=true }]⟩) n (fun x hx=>?_) ?_
 ·by_cases h:x<n
  ·have cn:=Apv x (by omega);have e1:(x:Int)<(n:Int):=by omega
   have hw:IntKind.i64.wrap ((x:Int)+1)=((x+1:Nat):Int):=by rw[w64 (by unfold fit;omega)];omega
   simp only[go_sem,seval,q_jn e1];refine Ag cn ?_;simp only[go_sem,seval,(show (0:Int)<=(x:Int) by omega),e1,hw,Alx hx,A1e h,A1g h];exact⟨h,h,Bv (by simp[Bm])⟩
  ·have:x=n:=by omega
   subst this;simp only[go_sem,seval,q_je (show ¬(x:Int)<(x:Int) by omega)];rw[q_js (by rw[Alx (q_ja _)];exact q_ja _),A1f]
 ·rw[show Nw n 0=List.replicate n [SV.str (bs [])] by simp[Nw]];exact Bv (by simp[Bm])
structure Abu(c:QC):Prop where
 n:c.tx.length<1000000000
 l:c.L.length<=c.tx.length
 e:c.e<=c.tx.length
 p:∀k,k<c.L.length->(c.tk k).p+(c.tk k).w.length<=c.tx.length
 cl:∀k q,k<c.L.length->Gk c k=some q->k<q/\q<=c.L.length/\(c.tk k).p<=(c.tk (q-1)).p+(c.tk (q-1)).w.length
 z:∀k ns,k<c.L.length->Gk c k=none->∃t p,Gr ((c.tx.drop (c.tk k).p).take (c.tx.length-(c.tk k).p)) ns 0 0=(t,some p)
def Wv(n:Nat):(Di n).length=n:=by simp[Di]
def wp{a b:Nat}(h:a+b<1000000000000):IntKind.i64.wrap ((a:Int)+(b:Int))=((a+b:Nat):Int):=by rw[w64 (by unfold fit;omega)];omega
section
variable{c:QC}{s:QS}
def Ey(hg:Abu c)(n:Nat)(Sh:n<=1000000)(pl:Bool)(hr:∀k p t,Gr ((c.tx.drop (c.tk k).p).take (Ew c k-(c.tk k).p)) (Di n) 0 0=(t,some p)->p<=c.tx.length):Cj 79 [Co c s] [.gp 0 0,.int .i64 n,.bool pl] (.ret (.agg true (tv (Cb c n pl s).1))) [Co c (Cb c n pl s).2]:=by
 have Jc:∀{G G'} (a:Cj 79 G [.gp 0 0,.int .i64 n,.bool pl] (.ret (.agg true [.int .i64 0,.int .i64 0,.int .i64 0,.int .i64 0,.nils])) G'),Cj 79 G [.gp 0 0,.int .i64 n,.bool pl] (.ret (.agg true (tv zR))) G':=fun a=>Ib a (Mp _ _ _ _)
 have hn:c.L.length<100000000000:=by have:=hg.n;have:=hg.l;omega
 have hTx:=hg.n;have a10:(c.L.length<=140737488355328)=True:=by simp;omega
 have ci:=Yo (c:=c) (s:=s) hn 1;have cf:=Vw (c:=c) (s:=s) hn s.k;have cf1:=Vw (c:=c) (s:=s) hn (s.k+1);have cc:=fun h=>Avg (c:=c) (s:=s) hn h
 obtain⟨k,b,a⟩:=s;simp only at cf cf1 cc;cases b;rotate_left
 ·rw[show Cb c n pl ⟨k,true,a⟩=(zR,Dn c ⟨k,true,a⟩ k) from rfl];refine Jc ?_;refine Bq mixed Tryz.func79 tr79 ?_;unfold Co at cf |-;simp only[go_sem,seval];refine Ac cf ?_;simp only[go_sem,seval]
 by_cases h:k<c.L.length
 rotate_left
 ·rw[show Cb c n pl ⟨k,false,a⟩=(zR,Dn c ⟨k,false,a⟩ k) from if_neg (fun x=>h x.2)];refine Jc ?_;refine Bq mixed Tryz.func79 tr79 ?_;unfold Co at cf |-;simp only[go_sem,seval,a10,q_jn (show (k:Int) >= (c.L.length:Int) by omega),q_g,forall_const];refine Ac cf ?_;simp only[go_sem,seval]
 obtain⟨a1,a2,a3,a4,a6,a7,a8,a9⟩:=qAt hn h;have cc:=cc (Nat.le_of_lt h);have hi:isQ c ⟨k,false,a⟩ 1=decide ((c.tk k).k=1):=by simp[isQ,h]
 have cn:=Apx n Sh;have hp:=hg.p k h
 -- the piece,read
 have hend:(c.tk k).p<=Ew c k/\Ew c k<=c.tx.length:=by
  unfold Ew;cases hq:Gk c k with
  |none=>exact⟨by simp only;omega,q_ja _⟩
  |some q=>
   obtain⟨q1,q2,q3⟩:=hg.cl k q h hq;exact⟨q3,hg.p (q-1) (by omega)⟩
 have cr:=Ap9 (tx:=(c.tx.drop (c.tk k).p).take (Ew c k-(c.tk k).p)) (ns:=Di n) (by rw[Wv];omega) (by rw[q_kf];omega) (i:=0) (j:=0) (by omega) (by omega);have hr:=hr k
 by_cases Ff:(c.tk k).k=1
 rotate_left
 ·rw[q_je Ff] at hi;rw[hi] at ci;rw[show Cb c n pl ⟨k,false,a⟩=(match (Gr ((c.tx.drop (c.tk k).p).take (Ew c k-(c.tk k).p)) (Di n) 0 0) with|(t,none)=>(t,{ k:=(Gk c k).getD 0,bad:=false,at_:=a })|(_,some p)=>(zR,Gj ⟨k,false,a⟩ ((c.tk k).p+p))) from (if_pos ⟨rfl,h⟩).trans (if_neg (fun x=>Ff x.1))];cases hq:Gk c k with
  |none=>
   obtain⟨t,p,hz⟩:=hg.z k (Di n) h hq;have hE:Ew c k=c.tx.length:=by unfold Ew;rw[hq]
   have Ia:=hr p t (by rw[hE];exact hz);rw[hE] at cr |-;rw[hq] at cc;rw[hz] at cr |-;have cp:=Qt (c:=c) (s:=⟨k,false,a⟩) ((c.tk k).p+p);refine Jc ?_;refine Bq mixed Tryz.func79 tr79 ?_;unfold Co at ci cc cp |-;unfold nmG at cn cr
   repeat' first
   |simp only[go_sem,seval,a1,a2,a3,a4,a6,a7,a9,q_je a8,q_g,Ll,show Mb none=-1 from rfl,(show (0:Int)<=((c.tk k).p:Int) by omega),(show ((c.tk k).p:Int)<=(c.tx.length:Int) by omega),(show (c.tk k).p<=c.tx.length by omega),(show (0:Int)<=(c.tx.length:Int) by omega),Int.le_refl,q_ja,wp (a:=(c.tk k).p) (b:=p) (by omega),forall_const]
   |refine Ac ci ?_
   |refine Ac cc ?_
   |refine Ag cn ?_
   |refine Ag cr ?_
   |refine Ac cp ?_
  |some q=>
   obtain⟨q1,q2,q3⟩:=hg.cl k q h hq;obtain⟨b1,b2,b3,b4,b6,b7,b8,b9⟩:=qAt hn (show q-1<c.L.length by omega);have hqp:=hg.p (q-1) (by omega);have hE:Ew c k=(c.tk (q-1)).p+(c.tk (q-1)).w.length:=by unfold Ew;rw[hq]
   have Ot:IntKind.i64.wrap ((q:Int)-1)=((q-1:Nat):Int):=by rw[w64 (by unfold fit;omega)];omega
   have Iv:=wp (a:=(c.tk (q-1)).p) (b:=(c.tk (q-1)).w.length) (by omega);rw[hE] at cr |-;rw[hq] at cc;rw[show (some q).getD 0=q from rfl];rw[hE] at hr hend;generalize (c.tk (q-1)).p+(c.tk (q-1)).w.length=E at *
   cases hz:Gr ((c.tx.drop (c.tk k).p).take (E-(c.tk k).p)) (Di n) 0 0 with
   |mk t o=>
    rw[hz] at cr;cases o with
    |none=>
     refine Bq mixed Tryz.func79 tr79 ?_;unfold Co at ci cc |-;unfold nmG at cn cr
     repeat' first
     |simp only[go_sem,seval,a1,a2,a3,a4,a6,a7,a9,q_je a8,q_g,Ll,show Mb (some q)=(q:Int) from rfl,q_jn (show (q:Int) > 0 by omega),Ot,Iv,b1,b2,b3,b4,b9,(show (0:Int)<=((c.tk k).p:Int) by omega),(show ((c.tk k).p:Int)<=(E:Int) by omega),(show (E:Int)<=(c.tx.length:Int) by omega),(show (0:Int)<=(E:Int) by omega),hend.1,hend.2,forall_const]
     |refine Ac ci ?_
     |refine Ac cc ?_
     |refine Ag cn ?_
     |refine Ag cr ?_
    |some p=>
     have Ia:=hr p t hz;have cp:=Qt (c:=c) (s:=⟨k,false,a⟩) ((c.tk k).p+p);refine Jc ?_;refine Bq mixed Tryz.func79 tr79 ?_;unfold Co at ci cc cp |-;unfold nmG at cn cr
     repeat' first
     |simp only[go_sem,seval,a1,a2,a3,a4,a6,a7,a9,q_je a8,q_g,Ll,show Mb (some q)=(q:Int) from rfl,q_jn (show (q:Int) > 0 by omega),Ot,Iv,b1,b2,b3,b4,b9,(show (0:Int)<=((c.tk k).p:Int) by omega),(show ((c.tk k).p:Int)<=(E:Int) by omega),(show (E:Int)<=(c.tx.length:Int) by omega),(show (0:Int)<=(E:Int) by omega),hend.1,hend.2,wp (a:=(c.tk k).p) (b:=p) (by omega),forall_const]
     |refine Ac ci ?_
     |refine Ac cc ?_
     |refine Ag cn ?_
     |refine Ag cr ?_
     |refine Ac cp ?_
 rw[q_jn Ff] at hi;rw[hi] at ci
 by_cases h1:k+1<c.L.length
 rotate_left
 ·have n1:¬((k+1:Nat):Int)<(c.L.length:Int):=by omega
  rw[show Cb c n pl ⟨k,false,a⟩=(match (Gr ((c.tx.drop (c.tk k).p).take (Ew c k-(c.tk k).p)) (Di n) 0 0) with|(t,none)=>(t,{ k:=(Gk c k).getD 0,bad:=false,at_:=a })|(_,some p)=>(zR,Gj ⟨k,false,a⟩ ((c.tk k).p+p))) from (if_pos ⟨rfl,h⟩).trans (if_neg (fun x=>h1 x.2.1))];cases hq:Gk c k with
  |none=>
   obtain⟨t,p,hz⟩:=hg.z k (Di n) h hq;have hE:Ew c k=c.tx.length:=by unfold Ew;rw[hq]
   have Ia:=hr p t (by rw[hE];exact hz);rw[hE] at cr |-;rw[hq] at cc;rw[hz] at cr |-;have cp:=Qt (c:=c) (s:=⟨k,false,a⟩) ((c.tk k).p+p);refine Jc ?_;refine Bq mixed Tryz.func79 tr79 ?_;unfold Co at ci cc cp |-;unfold nmG at cn cr
   repeat' first
   |simp only[go_sem,seval,a1,a2,a3,a4,a6,a7,a9,q_je a8,q_g,Ll,q_je n1,show Mb none=-1 from rfl,(show (0:Int)<=((c.tk k).p:Int) by omega),(show ((c.tk k).p:Int)<=(c.tx.length:Int) by omega),(show (c.tk k).p<=c.tx.length by omega),(show (0:Int)<=(c.tx.length:Int) by omega),Int.le_refl,q_ja,wp (a:=(c.tk k).p) (b:=p) (by omega),forall_const]
   |refine Ac ci ?_
   |refine Ac cc ?_
   |refine Ag cn ?_
   |refine Ag cr ?_
   |refine Ac cp ?_
  |some q=>
   obtain⟨q1,q2,q3⟩:=hg.cl k q h hq;obtain⟨b1,b2,b3,b4,b6,b7,b8,b9⟩:=qAt hn (show q-1<c.L.length by omega);have hqp:=hg.p (q-1) (by omega);have hE:Ew c k=(c.tk (q-1)).p+(c.tk (q-1)).w.length:=by unfold Ew;rw[hq]
   have Ot:IntKind.i64.wrap ((q:Int)-1)=((q-1:Nat):Int):=by rw[w64 (by unfold fit;omega)];omega
   have Iv:=wp (a:=(c.tk (q-1)).p) (b:=(c.tk (q-1)).w.length) (by omega);rw[hE] at cr |-;rw[hq] at cc;rw[show (some q).getD 0=q from rfl];rw[hE] at hr hend;generalize (c.tk (q-1)).p+(c.tk (q-1)).w.length=E at *
   cases hz:Gr ((c.tx.drop (c.tk k).p).take (E-(c.tk k).p)) (Di n) 0 0 with
   |mk t o=>
    rw[hz] at cr;cases o with
    |none=>
     refine Bq mixed Tryz.func79 tr79 ?_;unfold Co at ci cc |-;unfold nmG at cn cr
     repeat' first
     |simp only[go_sem,seval,a1,a2,a3,a4,a6,a7,a9,q_je a8,q_g,Ll,q_je n1,show Mb (some q)=(q:Int) from rfl,q_jn (show (q:Int) > 0 by omega),Ot,Iv,b1,b2,b3,b4,b9,(show (0:Int)<=((c.tk k).p:Int) by omega),(show ((c.tk k).p:Int)<=(E:Int) by omega),(show (E:Int)<=(c.tx.length:Int) by omega),(show (0:Int)<=(E:Int) by omega),hend.1,hend.2,forall_const]
     |refine Ac ci ?_
     |refine Ac cc ?_
     |refine Ag cn ?_
     |refine Ag cr ?_
    |some p=>
     have Ia:=hr p t hz;have cp:=Qt (c:=c) (s:=⟨k,false,a⟩) ((c.tk k).p+p);refine Jc ?_;refine Bq mixed Tryz.func79 tr79 ?_;unfold Co at ci cc cp |-;unfold nmG at cn cr
     repeat' first
     |simp only[go_sem,seval,a1,a2,a3,a4,a6,a7,a9,q_je a8,q_g,Ll,q_je n1,show Mb (some q)=(q:Int) from rfl,q_jn (show (q:Int) > 0 by omega),Ot,Iv,b1,b2,b3,b4,b9,(show (0:Int)<=((c.tk k).p:Int) by omega),(show ((c.tk k).p:Int)<=(E:Int) by omega),(show (E:Int)<=(c.tx.length:Int) by omega),(show (0:Int)<=(E:Int) by omega),hend.1,hend.2,wp (a:=(c.tk k).p) (b:=p) (by omega),forall_const]
     |refine Ac ci ?_
     |refine Ac cc ?_
     |refine Ag cn ?_
     |refine Ag cr ?_
     |refine Ac cp ?_
 obtain⟨d1,d2,d3,d4,d6,d7,d8,d9⟩:=qAt hn h1
 by_cases Dt:(c.tk (k+1)).k=3
 rotate_left
 ·have k3:(((c.tk (k+1)).k:Int)==3)=false:=by simp;omega
  rw[show Cb c n pl ⟨k,false,a⟩=(match (Gr ((c.tx.drop (c.tk k).p).take (Ew c k-(c.tk k).p)) (Di n) 0 0) with|(t,none)=>(t,{ k:=(Gk c k).getD 0,bad:=false,at_:=a })|(_,some p)=>(zR,Gj ⟨k,false,a⟩ ((c.tk k).p+p))) from (if_pos ⟨rfl,h⟩).trans (if_neg (fun x=>Dt x.2.2.1))];cases hq:Gk c k with
  |none=>
   obtain⟨t,p,hz⟩:=hg.z k (Di n) h hq;have hE:Ew c k=c.tx.length:=by unfold Ew;rw[hq]
   have Ia:=hr p t (by rw[hE];exact hz);rw[hE] at cr |-;rw[hq] at cc;rw[hz] at cr |-;have cp:=Qt (c:=c) (s:=⟨k,false,a⟩) ((c.tk k).p+p);refine Jc ?_;refine Bq mixed Tryz.func79 tr79 ?_;unfold Co at ci cc cp |-;unfold nmG at cn cr
   repeat' first
   |simp only[go_sem,seval,a1,a2,a3,a4,a6,a7,a9,q_je a8,q_g,Ll,q_jn d2,d1,d2,d3,d4,k3,show Mb none=-1 from rfl,(show (0:Int)<=((c.tk k).p:Int) by omega),(show ((c.tk k).p:Int)<=(c.tx.length:Int) by omega),(show (c.tk k).p<=c.tx.length by omega),(show (0:Int)<=(c.tx.length:Int) by omega),Int.le_refl,q_ja,wp (a:=(c.tk k).p) (b:=p) (by omega),forall_const]
   |refine Ac ci ?_
   |refine Ac cc ?_
   |refine Ag cn ?_
   |refine Ag cr ?_
   |refine Ac cp ?_
  |some q=>
   obtain⟨q1,q2,q3⟩:=hg.cl k q h hq;obtain⟨b1,b2,b3,b4,b6,b7,b8,b9⟩:=qAt hn (show q-1<c.L.length by omega);have hqp:=hg.p (q-1) (by omega);have hE:Ew c k=(c.tk (q-1)).p+(c.tk (q-1)).w.length:=by unfold Ew;rw[hq]
   have Ot:IntKind.i64.wrap ((q:Int)-1)=((q-1:Nat):Int):=by rw[w64 (by unfold fit;omega)];omega
   have Iv:=wp (a:=(c.tk (q-1)).p) (b:=(c.tk (q-1)).w.length) (by omega);rw[hE] at cr |-;rw[hq] at cc;rw[show (some q).getD 0=q from rfl];rw[hE] at hr hend;generalize (c.tk (q-1)).p+(c.tk (q-1)).w.length=E at *
   cases hz:Gr ((c.tx.drop (c.tk k).p).take (E-(c.tk k).p)) (Di n) 0 0 with
   |mk t o=>
    rw[hz] at cr;cases o with
    |none=>
     refine Bq mixed Tryz.func79 tr79 ?_;unfold Co at ci cc |-;unfold nmG at cn cr
     repeat' first
     |simp only[go_sem,seval,a1,a2,a3,a4,a6,a7,a9,q_je a8,q_g,Ll,q_jn d2,d1,d2,d3,d4,k3,show Mb (some q)=(q:Int) from rfl,q_jn (show (q:Int) > 0 by omega),Ot,Iv,b1,b2,b3,b4,b9,(show (0:Int)<=((c.tk k).p:Int) by omega),(show ((c.tk k).p:Int)<=(E:Int) by omega),(show (E:Int)<=(c.tx.length:Int) by omega),(show (0:Int)<=(E:Int) by omega),hend.1,hend.2,forall_const]
     |refine Ac ci ?_
     |refine Ac cc ?_
     |refine Ag cn ?_
     |refine Ag cr ?_
    |some p=>
     have Ia:=hr p t hz;have cp:=Qt (c:=c) (s:=⟨k,false,a⟩) ((c.tk k).p+p);refine Jc ?_;refine Bq mixed Tryz.func79 tr79 ?_;unfold Co at ci cc cp |-;unfold nmG at cn cr
     repeat' first
     |simp only[go_sem,seval,a1,a2,a3,a4,a6,a7,a9,q_je a8,q_g,Ll,q_jn d2,d1,d2,d3,d4,k3,show Mb (some q)=(q:Int) from rfl,q_jn (show (q:Int) > 0 by omega),Ot,Iv,b1,b2,b3,b4,b9,(show (0:Int)<=((c.tk k).p:Int) by omega),(show ((c.tk k).p:Int)<=(E:Int) by omega),(show (E:Int)<=(c.tx.length:Int) by omega),(show (0:Int)<=(E:Int) by omega),hend.1,hend.2,wp (a:=(c.tk k).p) (b:=p) (by omega),forall_const]
     |refine Ac ci ?_
     |refine Ac cc ?_
     |refine Ag cn ?_
     |refine Ag cr ?_
     |refine Ac cp ?_
 have k3:(((c.tk (k+1)).k:Int)==3)=true:=by simp[Dt]
 have co:=Ap4 (c.tk (k+1)).w pl;cases ho:Mr (c.tk (k+1)).w pl
 ·rw[ho] at co;rw[show Cb c n pl ⟨k,false,a⟩=(match (Gr ((c.tx.drop (c.tk k).p).take (Ew c k-(c.tk k).p)) (Di n) 0 0) with|(t,none)=>(t,{ k:=(Gk c k).getD 0,bad:=false,at_:=a })|(_,some p)=>(zR,Gj ⟨k,false,a⟩ ((c.tk k).p+p))) from (if_pos ⟨rfl,h⟩).trans (if_neg (fun x=>by rw[ho] at x;cases x.2.2.2))];cases hq:Gk c k with
  |none=>
   obtain⟨t,p,hz⟩:=hg.z k (Di n) h hq;have hE:Ew c k=c.tx.length:=by unfold Ew;rw[hq]
   have Ia:=hr p t (by rw[hE];exact hz);rw[hE] at cr |-;rw[hq] at cc;rw[hz] at cr |-;have cp:=Qt (c:=c) (s:=⟨k,false,a⟩) ((c.tk k).p+p);refine Jc ?_;refine Bq mixed Tryz.func79 tr79 ?_;unfold Co at ci cc cp |-;unfold nmG at cn cr
   repeat' first
   |simp only[go_sem,seval,a1,a2,a3,a4,a6,a7,a9,q_je a8,q_g,Ll,q_jn d2,d1,d2,d3,d4,k3,show Mb none=-1 from rfl,(show (0:Int)<=((c.tk k).p:Int) by omega),(show ((c.tk k).p:Int)<=(c.tx.length:Int) by omega),(show (c.tk k).p<=c.tx.length by omega),(show (0:Int)<=(c.tx.length:Int) by omega),Int.le_refl,q_ja,wp (a:=(c.tk k).p) (b:=p) (by omega),forall_const]
   |refine Ac ci ?_
   |refine Ag co ?_
   |refine Ac cc ?_
   |refine Ag cn ?_
   |refine Ag cr ?_
   |refine Ac cp ?_
  |some q=>
   obtain⟨q1,q2,q3⟩:=hg.cl k q h hq;obtain⟨b1,b2,b3,b4,b6,b7,b8,b9⟩:=qAt hn (show q-1<c.L.length by omega);have hqp:=hg.p (q-1) (by omega);have hE:Ew c k=(c.tk (q-1)).p+(c.tk (q-1)).w.length:=by unfold Ew;rw[hq]
   have Ot:IntKind.i64.wrap ((q:Int)-1)=((q-1:Nat):Int):=by rw[w64 (by unfold fit;omega)];omega
   have Iv:=wp (a:=(c.tk (q-1)).p) (b:=(c.tk (q-1)).w.length) (by omega);rw[hE] at cr |-;rw[hq] at cc;rw[show (some q).getD 0=q from rfl];rw[hE] at hr hend;generalize (c.tk (q-1)).p+(c.tk (q-1)).w.length=E at *
   cases hz:Gr ((c.tx.drop (c.tk k).p).take (E-(c.tk k).p)) (Di n) 0 0 with
   |mk t o=>
    rw[hz] at cr;cases o with
    |none=>
     refine Bq mixed Tryz.func79 tr79 ?_;unfold Co at ci cc |-;unfold nmG at cn cr
     repeat' first
     |simp only[go_sem,seval,a1,a2,a3,a4,a6,a7,a9,q_je a8,q_g,Ll,q_jn d2,d1,d2,d3,d4,k3,show Mb (some q)=(q:Int) from rfl,q_jn (show (q:Int) > 0 by omega),Ot,Iv,b1,b2,b3,b4,b9,(show (0:Int)<=((c.tk k).p:Int) by omega),(show ((c.tk k).p:Int)<=(E:Int) by omega),(show (E:Int)<=(c.tx.length:Int) by omega),(show (0:Int)<=(E:Int) by omega),hend.1,hend.2,forall_const]
     |refine Ac ci ?_
     |refine Ag co ?_
     |refine Ac cc ?_
     |refine Ag cn ?_
     |refine Ag cr ?_
    |some p=>
     have Ia:=hr p t hz;have cp:=Qt (c:=c) (s:=⟨k,false,a⟩) ((c.tk k).p+p);refine Jc ?_;refine Bq mixed Tryz.func79 tr79 ?_;unfold Co at ci cc cp |-;unfold nmG at cn cr
     repeat' first
     |simp only[go_sem,seval,a1,a2,a3,a4,a6,a7,a9,q_je a8,q_g,Ll,q_jn d2,d1,d2,d3,d4,k3,show Mb (some q)=(q:Int) from rfl,q_jn (show (q:Int) > 0 by omega),Ot,Iv,b1,b2,b3,b4,b9,(show (0:Int)<=((c.tk k).p:Int) by omega),(show ((c.tk k).p:Int)<=(E:Int) by omega),(show (E:Int)<=(c.tx.length:Int) by omega),(show (0:Int)<=(E:Int) by omega),hend.1,hend.2,wp (a:=(c.tk k).p) (b:=p) (by omega),forall_const]
     |refine Ac ci ?_
     |refine Ag co ?_
     |refine Ac cc ?_
     |refine Ag cn ?_
     |refine Ag cr ?_
     |refine Ac cp ?_
 ·rw[ho] at co;rw[show Cb c n pl ⟨k,false,a⟩=(zR,Dn c ⟨k,false,a⟩ (k+1)) from (if_pos ⟨rfl,h⟩).trans (if_pos ⟨Ff,h1,Dt,ho⟩)];refine Jc ?_;refine Bq mixed Tryz.func79 tr79 ?_;unfold Co at ci cf1 |-
  repeat' first
  |simp only[go_sem,seval,a1,a2,a3,a4,a6,a7,a9,q_je a8,q_g,Ll,q_jn d2,d1,d2,d3,d4,k3,forall_const]
  |refine Ac ci ?_
  |refine Ag co ?_
  |refine Ac cf1 ?_
end
def Dg(e:Tm×Nat):List SV:=tv e.1++[.int .i64 e.2]
def Qk(e:Tm×Nat):(Dg e).length=6:=by unfold Dg;rw[q_jr,Br];rfl
def Rm(t:Tm)(i:Nat):fill [SV.int .i64 0,.int .i64 0,.int .i64 0,.int .i64 0,.nils,.int .i64 0] [(0,5,.agg true (tv t)),(5,1,.int .i64 i)]=Dg (t,i):=by
 obtain⟨k,a,b,n,l⟩:=t;unfold Dg;rw[Bp];rfl
structure GoodP(c:QC):Prop extends Abu c where
 r:∀n k p t,Gr ((c.tx.drop (c.tk k).p).take (Ew c k-(c.tk k).p)) (Di n) 0 0=(t,some p)->p<=c.tx.length
 m:c.tx.length<1000000
section
variable{c:QC}{s:QS}
def GoodP.hn(hg:GoodP c):c.L.length<100000000000:=by have:=hg.n;have:=hg.l;omega
def z5:List SV:=[.int .i64 0,.int .i64 0,.int .i64 0,.int .i64 0,.nils]
def Ft:List (Tm×Nat)->SV
 |[]=>.nils
 |e::es=>.dsl 6 ((e::es).map Dg)
def xqV(x:XQ):List SV:=Ft x.ctx::.bool x.eq::.int .i64 x.i::(tv x.a++(tv x.u++(if x.eq then tv x.b++(tv x.v++tv x.h) else z5++(z5++z5))))
def zx:List SV:=.nils::.bool false::.int .i64 0::(z5++(z5++(z5++(z5++z5))))
def xb(ctx:SV)(eq:Bool):List SV:=ctx::.bool eq::.int .i64 0::(z5++(z5++(z5++(z5++z5))))
def Xp(c:QC)(eq:Bool):List (Tm×Nat)×QS->St
 |([],s)=>⟨(.gp 0 0::.J::.ref 1 0 0 0::.ref 2 0 0 0::Cm (Cm (Ef (jk2 (.J::[]))))),[gOb [Co c s],⟨true,28,[zx],0,0,true⟩,⟨true,28,[xb .nils eq],0,0,true⟩]⟩
 |(e::es,s)=>⟨(.gp 0 0::.J::.ref 1 0 0 0::.ref 2 0 0 0::Cm (Cm (Ef (jk2 (.J::[]))))),[gOb [Co c s],⟨true,28,[zx],0,0,true⟩,⟨true,28,[xb (.osl 4 es.length 0 (es.length+1)) eq],0,0,false⟩,⟨false,6,[Dg e],0,0,true⟩,⟨false,6,(e::es).map Dg,es.length,es.length,true⟩]⟩
def Nb(eq:Bool):Xp c eq ([],s)=⟨(.gp 0 0::.J::.ref 1 0 0 0::.ref 2 0 0 0::Cm (Cm (Ef (jk2 (.J::[]))))),[gOb [Co c s],⟨true,28,[zx],0,0,true⟩,⟨true,28,[xb .nils eq],0,0,true⟩]⟩:=rfl
def Ku(eq:Bool)(e:Tm×Nat)(es:List (Tm×Nat)):Xp c eq (e::es,s)=⟨(.gp 0 0::.J::.ref 1 0 0 0::.ref 2 0 0 0::Cm (Cm (Ef (jk2 (.J::[]))))),[gOb [Co c s],⟨true,28,[zx],0,0,true⟩,⟨true,28,[xb (.osl 4 es.length 0 (es.length+1)) eq],0,0,false⟩,⟨false,6,[Dg e],0,0,true⟩,⟨false,6,(e::es).map Dg,es.length,es.length,true⟩]⟩:=rfl
def muQ(c:QC)(s:QS):Nat:=if s.bad then 0 else c.L.length+1-s.k
def Axc(hb:s.bad=true):Dj c s=(0,s):=by unfold Dj;rw[Abi hb,q9];rfl
def Aep(hk:s.k<=c.L.length):(Dj c s).2.k<=c.L.length/\s.k<=(Dj c s).2.k/\((Dj c s).2.bad=false->s.k<(Dj c s).2.k):=by
 have fk:∀(q:QS) k,(Dn c q k).k=q.k:=fun q k=>by unfold Dn Gj;split<;>rfl
 have fb:∀(q:QS) k,(Dn c q k).bad=true:=fun q k=>by unfold Dn Gj;split;assumption;rfl
 cases hb:s.bad with
 |true=>
  rw[Axc hb];exact⟨hk,q_ja _,fun h=>absurd (show s.bad=false from h) (by rw[hb];decide)⟩
 |false=>
  unfold Dj;rcases Abk (c:=c) hb 4 with⟨h,h1,_⟩|⟨a,h⟩
  ·rw[h];dsimp only;split
   ·exact⟨by rw[fk];exact h1,by rw[fk];exact Nat.le_succ _,fun h=>by rw[fb] at h;cases h⟩
   ·exact⟨h1,Nat.le_succ _,fun _=>Nat.lt_succ_self _⟩
  ·rw[h,q9];exact⟨hk,q_ja _,fun h=>(by cases h)⟩
def Afn(hg:Abu c)(n:Nat)(pl:Bool)(hk:s.k<=c.L.length):(Cb c n pl s).2.k<=c.L.length/\s.k<=(Cb c n pl s).2.k/\((Cb c n pl s).2.bad=false->s.k<(Cb c n pl s).2.k):=by
 unfold Cb;have fk:∀(q:QS) k,(Dn c q k).k=q.k:=fun q k=>by unfold Dn Gj;split<;>rfl
 have fb:∀(q:QS) k,(Dn c q k).bad=true:=fun q k=>by unfold Dn Gj;split;assumption;rfl
 have pk:∀(q:QS) k,(Gj q k).k=q.k:=fun q k=>by unfold Gj;split<;>rfl
 have pb:∀(q:QS) k,(Gj q k).bad=true:=fun q k=>by unfold Gj;split;assumption;rfl
 split;rotate_left
 ·exact⟨by rw[fk];exact hk,by rw[fk];exact q_ja _,fun h=>by rw[fb] at h;cases h⟩
 rename_i h;split
 ·exact⟨by rw[fk];exact hk,by rw[fk];exact q_ja _,fun h=>by rw[fb] at h;cases h⟩
 cases hz:Gr ((c.tx.drop (c.tk s.k).p).take (Ew c s.k-(c.tk s.k).p)) (Di n) 0 0 with
 |mk t o=>
  cases o with
  |some p=>exact⟨by rw[pk];exact hk,by rw[pk];exact q_ja _,fun h=>by rw[pb] at h;cases h⟩
  |none=>
   cases hq:Gk c s.k with
   |none=>
    obtain⟨t2,p,Ic⟩:=hg.z s.k (Di n) h.2 hq;have hE:Ew c s.k=c.tx.length:=by unfold Ew;rw[hq]
    rw[hE,Ic] at hz;cases hz
   |some q=>
    obtain⟨q1,q2,_⟩:=hg.cl s.k q h.2 hq;dsimp only[q_jz];exact⟨q2,Nat.le_of_lt q1,fun _=>q1⟩
def Kd{kd:Nat}(hk:s.k<=c.L.length):(Bs c s kd).2.k<=c.L.length:=by
 cases hb:s.bad with
 |true=>rw[Abi hb];exact hk
 |false=>
  rcases Abk (c:=c) hb kd with⟨h,h1,_⟩|⟨a,h⟩
  ·rw[h];exact h1
  ·rw[h];exact hk
def Avf(hg:GoodP c)(hk:s.k<=c.L.length):Cj 41 [Co c s] [.gp 0 0] (.ret (.agg true (xqV (Je c s).1))) [Co c (Je c s).2]:=by
 have hn:=hg.hn;have c1:=Ix (c:=c) (s:=s) hn 3;have Ff:=Kd (c:=c) (kd:=3) hk;refine Bq mixed Tryz.func41 tr41 ?_;generalize Lf:Bs c s 3=q1 at *
 obtain⟨w,s1⟩:=q1;simp only at *
 by_cases hw:w=[116,101,114,109]
 ·subst hw;have eh:Gv c s=(false,s1):=by unfold Gv;rw[Lf];rfl
  unfold Je;rw[eh];dsimp only;have c2:=Ix (c:=c) (s:=s1) hn 1;have Gp:=Kd (c:=c) (kd:=1) Ff;generalize Bs c s1 1=q2 at *
  obtain⟨w2,s2⟩:=q2;simp only at *
  generalize hR:Fc c (c.L.length+1) [] s2=R at *
  unfold Co at c1 c2 |-
  repeat' first
  |simp only[go_sem,seval]
  |refine Ac c1 ?_
  |refine Ac c2 ?_
  refine Hv (Xp c false) (fun a=>muQ c a.2) (fun a=>a.2.k<=c.L.length/\a.1.length<=a.2.k+1/\(a.2.bad=false->a.1.length<=a.2.k)/\∃f,muQ c a.2<=f/\Fc c f a.1 a.2=R) (fun a ha=>?_) ([],s2) ⟨Gp,Nat.zero_le _,fun _=>Nat.zero_le _,c.L.length+1,by unfold muQ;split<;>omega,hR⟩ (by rw[Nb];unfold Co;exact Bv (by simp[Bm]));obtain⟨es,sx⟩:=a;obtain⟨Iu,Fd,Ok,f,hf,hq⟩:=ha;simp only at Iu Fd Ok hf hq;have ci:=Yo (c:=c) (s:=sx) hn 2
  by_cases hgo:sx.bad=false/\isQ c sx 2=false
  ·obtain⟨f,rfl⟩:∃g,f=g+1:=⟨f-1,by unfold muQ at hf;rw[hgo.1,if_neg (by simp)] at hf;omega⟩
   have Yr:=Ok hgo.1;rw[Fc,if_pos hgo] at hq;have cl:=Ky (c:=c) (s:=sx) hn;have kl:=Aep (c:=c) Iu;generalize Dj c sx=q3 at *
   obtain⟨i,s3⟩:=q3;simp only at cl kl hq;have ct:=Ey hg.toAbu (s:=s3) es.length (by have:=hg.m;have:=hg.l;omega) false (hg.r es.length);have kt:=Afn hg.toAbu es.length false (s:=s3) kl.1;generalize Cb c es.length false s3=q4 at *
   obtain⟨t,s4⟩:=q4;simp only at ct kt hq;have hmu:muQ c s4<muQ c sx/\muQ c s4<=f:=by
    unfold muQ at hf |-;simp only[hgo.1,q_l,if_false] at hf |-;cases Mf:s4.bad with
    |true=>simp only[if_true];omega
    |false=>
     have a1:=kt.2.2 Mf;simp only[q_l,if_false];have:=kl.2.1;have:=kt.1;omega
   have hk4:es.length+1<=s4.k+1/\(s4.bad=false->es.length+1<=s4.k):=by
    have a1:=kl.2.1;have a2:=kt.2.1;exact⟨by omega,fun Mf=>by have:=kt.2.2 Mf;omega⟩
   have hb:=hgo.1;have hi:=hgo.2;rw[hi] at ci;cases es with
   |nil=>
    rw[Nb];unfold Co at ci cl ct |-;simp only[hb] at ci cl
    repeat' first
    |simp only[go_sem,seval,hb,Rm,Qk,zx,xb,z5,q_km,q_kl]
    |refine Ac ci ?_
    |refine Ac cl ?_
    |refine Ac ct ?_
    refine⟨([(t,i)],s4),⟨hmu.1,kt.1,hk4.1,hk4.2,f,hmu.2,hq⟩,?_⟩;rw[Ku];unfold Co zx xb z5;exact Fx 5 (by simp[Bm]) (by simp) (by simp[Dm]) (by simp[gOb,Dm])
   |cons e es=>
    have hset:∀u v:List SV,((e::es).map Dg++[u]).set (es.length+1) v=(e::es).map Dg++[v]:=fun u v=>by
     rw[List.set_append_right _ _ (by simp),q_g,q_jk,Nat.sub_self,List.set_cons_zero]
    have Aix:es.length+1<=1000000:=by have:=hg.m;have:=hg.l;simp only[q_jk] at Yr;omega
    rw[Ku];unfold Co at ci cl ct |-;simp only[hb] at ci cl
    repeat' first
    |simp only[go_sem,seval,hb,Rm,Qk,zx,xb,z5,q_km,q_kl]
    |refine Ac ci ?_
    |refine Ac cl ?_
    |refine Ac ct ?_
    refine⟨⟨by simp,by omega,by omega⟩,?_⟩;refine⟨(e::(es++[(t,i)]),s4),⟨hmu.1,kt.1,by simpa using hk4.1,fun h=>by simpa using hk4.2 h,f,hmu.2,hq⟩,?_⟩;rw[Ku];unfold Co zx xb z5;simp only[q_h,q_kt,q_i,q_jr,q_jk,List.length_nil,q_g,q_jg,q_km,q_kl];exact Fx 5 (by simp[Bm]) (by simp) (by simp[Dm]) (by simp[gOb,Dm])
  ·have Iv:Fc c f es sx=(es,sx):=by cases f with
    |zero=>rfl
    |succ f=>rw[Fc,if_neg hgo]
   rw[Iv] at hq;subst hq;dsimp only;have hle:es.length<=1000000:=by have:=hg.m;have:=hg.l;omega
   have Kx:sx.bad=true\/(sx.bad=false/\isQ c sx 2=true):=by
    cases hb:sx.bad with
    |true=>exact .inl rfl
    |false=>
     cases hi:isQ c sx 2 with
     |true=>exact .inr ⟨rfl,rfl⟩
     |false=>exact absurd ⟨hb,hi⟩ hgo
   obtain⟨N,hN⟩:∃N,es.length=N:=⟨_,rfl⟩
   rw[hN] at hle |-;clear Fd Ok hf Iv hR hgo;cases es with
   |nil=>
    obtain rfl:N=0:=by simpa using hN.symm
    rcases Kx with hb|⟨hb,hi⟩
    ·have c5:=Ix (c:=c) (s:=sx) hn 2;have k5:(Bs c sx 2).2.k<=c.L.length:=Kd Iu;generalize Bs c sx 2=q5 at *
     obtain⟨w5,s5⟩:=q5;dsimp only at c5 k5 |-;have c6:=Ky (c:=c) (s:=s5) hn;generalize Dj c s5=q6 at *
     obtain⟨li,s6⟩:=q6;dsimp only at c6 |-;have t1:=Ey hg.toAbu (s:=s6) 0 hle false (hg.r 0);generalize Cb c 0 false s6=q at *
     obtain⟨⟨xq1,yq1,zq1,vq1,lq1⟩,sT1⟩:=q;dsimp only at t1 |-;rw[Bp] at t1;have t2:=Ey hg.toAbu (s:=sT1) 0 hle false (hg.r 0);generalize Cb c 0 false sT1=q at *
     obtain⟨⟨xq2,yq2,zq2,vq2,lq2⟩,sT2⟩:=q;dsimp only at t2 |-;rw[Bp] at t2
     first|rw[if_pos (rfl:false=false)]|skip
     rw[Nb];unfold Co at ci c5 c6 t1 t2 |-;simp only[hb] at ci c5
     repeat' first
     |simp (config:={ maxSteps:=4000000 }) only[go_sem,seval,hb,zx,xb,z5,xqV,Ft,Bp,q_h,q_jk,q_g,if_true,if_false,q_l,Dz,List.take_succ_cons,List.take_zero,List.drop_succ_cons,List.drop_zero,q_km,q_kl]
     |refine Ac ci ?_
     |refine Ac c5 ?_
     |refine Ac c6 ?_
     |refine Ac t1 ?_
     |refine Ac t2 ?_
     all_goals first|exact⟨rfl,rfl⟩|rfl
    ·have c5:=Ix (c:=c) (s:=sx) hn 2;have k5:(Bs c sx 2).2.k<=c.L.length:=Kd Iu;generalize Bs c sx 2=q5 at *
     obtain⟨w5,s5⟩:=q5;dsimp only at c5 k5 |-;have c6:=Ky (c:=c) (s:=s5) hn;generalize Dj c s5=q6 at *
     obtain⟨li,s6⟩:=q6;dsimp only at c6 |-;have t1:=Ey hg.toAbu (s:=s6) 0 hle false (hg.r 0);generalize Cb c 0 false s6=q at *
     obtain⟨⟨xq1,yq1,zq1,vq1,lq1⟩,sT1⟩:=q;dsimp only at t1 |-;rw[Bp] at t1;have t2:=Ey hg.toAbu (s:=sT1) 0 hle false (hg.r 0);generalize Cb c 0 false sT1=q at *
     obtain⟨⟨xq2,yq2,zq2,vq2,lq2⟩,sT2⟩:=q;dsimp only at t2 |-;rw[Bp] at t2
     first|rw[if_pos (rfl:false=false)]|skip
     rw[Nb];unfold Co at ci c5 c6 t1 t2 |-;simp only[hb,hi] at ci c5
     repeat' first
     |simp (config:={ maxSteps:=4000000 }) only[go_sem,seval,hb,zx,xb,z5,xqV,Ft,Bp,q_h,q_jk,q_g,if_true,if_false,q_l,Dz,List.take_succ_cons,List.take_zero,List.drop_succ_cons,List.drop_zero,q_km,q_kl]
     |refine Ac ci ?_
     |refine Ac c5 ?_
     |refine Ac c6 ?_
     |refine Ac t1 ?_
     |refine Ac t2 ?_
     all_goals first|exact⟨rfl,rfl⟩|rfl
   |cons e es=>
    obtain rfl:N=es.length+1:=by simpa using hN.symm
    rcases Kx with hb|⟨hb,hi⟩
    ·have c5:=Ix (c:=c) (s:=sx) hn 2;have k5:(Bs c sx 2).2.k<=c.L.length:=Kd Iu;generalize Bs c sx 2=q5 at *
     obtain⟨w5,s5⟩:=q5;dsimp only at c5 k5 |-;have c6:=Ky (c:=c) (s:=s5) hn;generalize Dj c s5=q6 at *
     obtain⟨li,s6⟩:=q6;dsimp only at c6 |-;have t1:=Ey hg.toAbu (s:=s6) (es.length+1) hle false (hg.r (es.length+1));generalize Cb c (es.length+1) false s6=q at *
     obtain⟨⟨xq1,yq1,zq1,vq1,lq1⟩,sT1⟩:=q;dsimp only at t1 |-;rw[Bp] at t1;have t2:=Ey hg.toAbu (s:=sT1) (es.length+1) hle false (hg.r (es.length+1));generalize Cb c (es.length+1) false sT1=q at *
     obtain⟨⟨xq2,yq2,zq2,vq2,lq2⟩,sT2⟩:=q;dsimp only at t2 |-;rw[Bp] at t2
     first|rw[if_pos (rfl:false=false)]|skip
     have Av:List.take (es.length+1) (Dg e::es.map Dg)=Dg e::es.map Dg:=q_js (by simp);rw[Ku];unfold Co at ci c5 c6 t1 t2 |-;simp only[hb] at ci c5
     repeat' first
     |simp (config:={ maxSteps:=4000000 }) only[go_sem,seval,hb,zx,xb,z5,xqV,Ft,Bp,q_h,q_jk,q_g,if_true,if_false,q_l,Av,Dz,List.take_succ_cons,List.take_zero,List.drop_succ_cons,List.drop_zero,q_km,q_kl]
     |refine Ac ci ?_
     |refine Ac c5 ?_
     |refine Ac c6 ?_
     |refine Ac t1 ?_
     |refine Ac t2 ?_
     all_goals first|exact⟨rfl,rfl⟩|rfl
    ·have c5:=Ix (c:=c) (s:=sx) hn 2;have k5:(Bs c sx 2).2.k<=c.L.length:=Kd Iu;generalize Bs c sx 2=q5 at *
     obtain⟨w5,s5⟩:=q5;dsimp only at c5 k5 |-;have c6:=Ky (c:=c) (s:=s5) hn;generalize Dj c s5=q6 at *
     obtain⟨li,s6⟩:=q6;dsimp only at c6 |-;have t1:=Ey hg.toAbu (s:=s6) (es.length+1) hle false (hg.r (es.length+1));generalize Cb c (es.length+1) false s6=q at *
     obtain⟨⟨xq1,yq1,zq1,vq1,lq1⟩,sT1⟩:=q;dsimp only at t1 |-;rw[Bp] at t1;have t2:=Ey hg.toAbu (s:=sT1) (es.length+1) hle false (hg.r (es.length+1));generalize Cb c (es.length+1) false sT1=q at *
     obtain⟨⟨xq2,yq2,zq2,vq2,lq2⟩,sT2⟩:=q;dsimp only at t2 |-;rw[Bp] at t2
     first|rw[if_pos (rfl:false=false)]|skip
     have Av:List.take (es.length+1) (Dg e::es.map Dg)=Dg e::es.map Dg:=q_js (by simp);rw[Ku];unfold Co at ci c5 c6 t1 t2 |-;simp only[hb,hi] at ci c5
     repeat' first
     |simp (config:={ maxSteps:=4000000 }) only[go_sem,seval,hb,zx,xb,z5,xqV,Ft,Bp,q_h,q_jk,q_g,if_true,if_false,q_l,Av,Dz,List.take_succ_cons,List.take_zero,List.drop_succ_cons,List.drop_zero,q_km,q_kl]
     |refine Ac ci ?_
     |refine Ac c5 ?_
     |refine Ac c6 ?_
     |refine Ac t1 ?_
     |refine Ac t2 ?_
     all_goals first|exact⟨rfl,rfl⟩|rfl
 by_cases hw2:w=[101,113,117,97,108]
 ·subst hw2;have eh:Gv c s=(true,s1):=by unfold Gv;rw[Lf];rfl
  unfold Je;rw[eh];dsimp only;have c2:=Ix (c:=c) (s:=s1) hn 1;have Gp:=Kd (c:=c) (kd:=1) Ff;generalize Bs c s1 1=q2 at *
  obtain⟨w2,s2⟩:=q2;simp only at *
  generalize hR:Fc c (c.L.length+1) [] s2=R at *
  unfold Co at c1 c2 |-
  repeat' first
  |simp only[go_sem,seval,(show (([101,113,117,97,108]:By)==[116,101,114,109])=false by decide)]
  |refine Ac c1 ?_
  |refine Ac c2 ?_
  refine Hv (Xp c true) (fun a=>muQ c a.2) (fun a=>a.2.k<=c.L.length/\a.1.length<=a.2.k+1/\(a.2.bad=false->a.1.length<=a.2.k)/\∃f,muQ c a.2<=f/\Fc c f a.1 a.2=R) (fun a ha=>?_) ([],s2) ⟨Gp,Nat.zero_le _,fun _=>Nat.zero_le _,c.L.length+1,by unfold muQ;split<;>omega,hR⟩ (by rw[Nb];unfold Co;exact Bv (by simp[Bm]));obtain⟨es,sx⟩:=a;obtain⟨Iu,Fd,Ok,f,hf,hq⟩:=ha;simp only at Iu Fd Ok hf hq;have ci:=Yo (c:=c) (s:=sx) hn 2
  by_cases hgo:sx.bad=false/\isQ c sx 2=false
  ·obtain⟨f,rfl⟩:∃g,f=g+1:=⟨f-1,by unfold muQ at hf;rw[hgo.1,if_neg (by simp)] at hf;omega⟩
   have Yr:=Ok hgo.1;rw[Fc,if_pos hgo] at hq;have cl:=Ky (c:=c) (s:=sx) hn;have kl:=Aep (c:=c) Iu;generalize Dj c sx=q3 at *
   obtain⟨i,s3⟩:=q3;simp only at cl kl hq;have ct:=Ey hg.toAbu (s:=s3) es.length (by have:=hg.m;have:=hg.l;omega) false (hg.r es.length);have kt:=Afn hg.toAbu es.length false (s:=s3) kl.1;generalize Cb c es.length false s3=q4 at *
   obtain⟨t,s4⟩:=q4;simp only at ct kt hq;have hmu:muQ c s4<muQ c sx/\muQ c s4<=f:=by
    unfold muQ at hf |-;simp only[hgo.1,q_l,if_false] at hf |-;cases Mf:s4.bad with
    |true=>simp only[if_true];omega
    |false=>
     have a1:=kt.2.2 Mf;simp only[q_l,if_false];have:=kl.2.1;have:=kt.1;omega
   have hk4:es.length+1<=s4.k+1/\(s4.bad=false->es.length+1<=s4.k):=by
    have a1:=kl.2.1;have a2:=kt.2.1;exact⟨by omega,fun Mf=>by have:=kt.2.2 Mf;omega⟩
   have hb:=hgo.1;have hi:=hgo.2;rw[hi] at ci;cases es with
   |nil=>
    rw[Nb];unfold Co at ci cl ct |-;simp only[hb] at ci cl
    repeat' first
    |simp only[go_sem,seval,hb,Rm,Qk,zx,xb,z5,q_km,q_kl]
    |refine Ac ci ?_
    |refine Ac cl ?_
    |refine Ac ct ?_
    refine⟨([(t,i)],s4),⟨hmu.1,kt.1,hk4.1,hk4.2,f,hmu.2,hq⟩,?_⟩;rw[Ku];unfold Co zx xb z5;exact Fx 5 (by simp[Bm]) (by simp) (by simp[Dm]) (by simp[gOb,Dm])
   |cons e es=>
    have hset:∀u v:List SV,((e::es).map Dg++[u]).set (es.length+1) v=(e::es).map Dg++[v]:=fun u v=>by
     rw[List.set_append_right _ _ (by simp),q_g,q_jk,Nat.sub_self,List.set_cons_zero]
    have Aix:es.length+1<=1000000:=by have:=hg.m;have:=hg.l;simp only[q_jk] at Yr;omega
    rw[Ku];unfold Co at ci cl ct |-;simp only[hb] at ci cl
    repeat' first
    |simp only[go_sem,seval,hb,Rm,Qk,zx,xb,z5,q_km,q_kl]
    |refine Ac ci ?_
    |refine Ac cl ?_
    |refine Ac ct ?_
    refine⟨⟨by simp,by omega,by omega⟩,?_⟩;refine⟨(e::(es++[(t,i)]),s4),⟨hmu.1,kt.1,by simpa using hk4.1,fun h=>by simpa using hk4.2 h,f,hmu.2,hq⟩,?_⟩;rw[Ku];unfold Co zx xb z5;simp only[q_h,q_kt,q_i,q_jr,q_jk,List.length_nil,q_g,q_jg,q_km,q_kl];exact Fx 5 (by simp[Bm]) (by simp) (by simp[Dm]) (by simp[gOb,Dm])
  ·have Iv:Fc c f es sx=(es,sx):=by cases f with
    |zero=>rfl
    |succ f=>rw[Fc,if_neg hgo]
   rw[Iv] at hq;subst hq;dsimp only;have hle:es.length<=1000000:=by have:=hg.m;have:=hg.l;omega
   have Kx:sx.bad=true\/(sx.bad=false/\isQ c sx 2=true):=by
    cases hb:sx.bad with
    |true=>exact .inl rfl
    |false=>
     cases hi:isQ c sx 2 with
     |true=>exact .inr ⟨rfl,rfl⟩
     |false=>exact absurd ⟨hb,hi⟩ hgo
   obtain⟨N,hN⟩:∃N,es.length=N:=⟨_,rfl⟩
   rw[hN] at hle |-;clear Fd Ok hf Iv hR hgo;cases es with
   |nil=>
    obtain rfl:N=0:=by simpa using hN.symm
    rcases Kx with hb|⟨hb,hi⟩
    ·have c5:=Ix (c:=c) (s:=sx) hn 2;have k5:(Bs c sx 2).2.k<=c.L.length:=Kd Iu;generalize Bs c sx 2=q5 at *
     obtain⟨w5,s5⟩:=q5;dsimp only at c5 k5 |-;have c6:=Ky (c:=c) (s:=s5) hn;generalize Dj c s5=q6 at *
     obtain⟨li,s6⟩:=q6;dsimp only at c6 |-;have t1:=Ey hg.toAbu (s:=s6) 0 hle false (hg.r 0);generalize Cb c 0 false s6=q at *
     obtain⟨⟨xq1,yq1,zq1,vq1,lq1⟩,sT1⟩:=q;dsimp only at t1 |-;rw[Bp] at t1;have t2:=Ey hg.toAbu (s:=sT1) 0 hle false (hg.r 0);generalize Cb c 0 false sT1=q at *
     obtain⟨⟨xq2,yq2,zq2,vq2,lq2⟩,sT2⟩:=q;dsimp only at t2 |-;rw[Bp] at t2;have t3:=Ey hg.toAbu (s:=sT2) 0 hle false (hg.r 0);generalize Cb c 0 false sT2=q at *
     obtain⟨⟨xq3,yq3,zq3,vq3,lq3⟩,sT3⟩:=q;dsimp only at t3 |-;rw[Bp] at t3;have t4:=Ey hg.toAbu (s:=sT3) 0 hle false (hg.r 0);generalize Cb c 0 false sT3=q at *
     obtain⟨⟨xq4,yq4,zq4,vq4,lq4⟩,sT4⟩:=q;dsimp only at t4 |-;rw[Bp] at t4;have t5:=Ey hg.toAbu (s:=sT4) 0 hle true (hg.r 0);generalize Cb c 0 true sT4=q at *
     obtain⟨⟨xq5,yq5,zq5,vq5,lq5⟩,sT5⟩:=q;dsimp only at t5 |-;rw[Bp] at t5
     first|rw[if_neg (show ¬(true=false) by decide)]|skip
     rw[Nb];unfold Co at ci c5 c6 t1 t2 t3 t4 t5 |-;simp only[hb] at ci c5
     repeat' first
     |simp (config:={ maxSteps:=4000000 }) only[go_sem,seval,hb,zx,xb,z5,xqV,Ft,Bp,q_h,q_jk,q_g,if_true,if_false,q_l,Dz,List.take_succ_cons,List.take_zero,List.drop_succ_cons,List.drop_zero,q_km,q_kl]
     |refine Ac ci ?_
     |refine Ac c5 ?_
     |refine Ac c6 ?_
     |refine Ac t1 ?_
     |refine Ac t2 ?_
     |refine Ac t3 ?_
     |refine Ac t4 ?_
     |refine Ac t5 ?_
     all_goals first|exact⟨rfl,rfl⟩|rfl
    ·have c5:=Ix (c:=c) (s:=sx) hn 2;have k5:(Bs c sx 2).2.k<=c.L.length:=Kd Iu;generalize Bs c sx 2=q5 at *
     obtain⟨w5,s5⟩:=q5;dsimp only at c5 k5 |-;have c6:=Ky (c:=c) (s:=s5) hn;generalize Dj c s5=q6 at *
     obtain⟨li,s6⟩:=q6;dsimp only at c6 |-;have t1:=Ey hg.toAbu (s:=s6) 0 hle false (hg.r 0);generalize Cb c 0 false s6=q at *
     obtain⟨⟨xq1,yq1,zq1,vq1,lq1⟩,sT1⟩:=q;dsimp only at t1 |-;rw[Bp] at t1;have t2:=Ey hg.toAbu (s:=sT1) 0 hle false (hg.r 0);generalize Cb c 0 false sT1=q at *
     obtain⟨⟨xq2,yq2,zq2,vq2,lq2⟩,sT2⟩:=q;dsimp only at t2 |-;rw[Bp] at t2;have t3:=Ey hg.toAbu (s:=sT2) 0 hle false (hg.r 0);generalize Cb c 0 false sT2=q at *
     obtain⟨⟨xq3,yq3,zq3,vq3,lq3⟩,sT3⟩:=q;dsimp only at t3 |-;rw[Bp] at t3;have t4:=Ey hg.toAbu (s:=sT3) 0 hle false (hg.r 0);generalize Cb c 0 false sT3=q at *
     obtain⟨⟨xq4,yq4,zq4,vq4,lq4⟩,sT4⟩:=q;dsimp only at t4 |-;rw[Bp] at t4;have t5:=Ey hg.toAbu (s:=sT4) 0 hle true (hg.r 0);generalize Cb c 0 true sT4=q at *
     obtain⟨⟨xq5,yq5,zq5,vq5,lq5⟩,sT5⟩:=q;dsimp only at t5 |-;rw[Bp] at t5
     first|rw[if_neg (show ¬(true=false) by decide)]|skip
     rw[Nb];unfold Co at ci c5 c6 t1 t2 t3 t4 t5 |-;simp only[hb,hi] at ci c5
     repeat' first
     |simp (config:={ maxSteps:=4000000 }) only[go_sem,seval,hb,zx,xb,z5,xqV,Ft,Bp,q_h,q_jk,q_g,if_true,if_false,q_l,Dz,List.take_succ_cons,List.take_zero,List.drop_succ_cons,List.drop_zero,q_km,q_kl]
     |refine Ac ci ?_
     |refine Ac c5 ?_
     |refine Ac c6 ?_
     |refine Ac t1 ?_
     |refine Ac t2 ?_
     |refine Ac t3 ?_
     |refine Ac t4 ?_
     |refine Ac t5 ?_
     all_goals first|exact⟨rfl,rfl⟩|rfl
   |cons e es=>
    obtain rfl:N=es.length+1:=by simpa using hN.symm
    rcases Kx with hb|⟨hb,hi⟩
    ·have c5:=Ix (c:=c) (s:=sx) hn 2;have k5:(Bs c sx 2).2.k<=c.L.length:=Kd Iu;generalize Bs c sx 2=q5 at *
     obtain⟨w5,s5⟩:=q5;dsimp only at c5 k5 |-;have c6:=Ky (c:=c) (s:=s5) hn;generalize Dj c s5=q6 at *
     obtain⟨li,s6⟩:=q6;dsimp only at c6 |-;have t1:=Ey hg.toAbu (s:=s6) (es.length+1) hle false (hg.r (es.length+1));generalize Cb c (es.length+1) false s6=q at *
     obtain⟨⟨xq1,yq1,zq1,vq1,lq1⟩,sT1⟩:=q;dsimp only at t1 |-;rw[Bp] at t1;have t2:=Ey hg.toAbu (s:=sT1) (es.length+1) hle false (hg.r (es.length+1));generalize Cb c (es.length+1) false sT1=q at *
     obtain⟨⟨xq2,yq2,zq2,vq2,lq2⟩,sT2⟩:=q;dsimp only at t2 |-;rw[Bp] at t2;have t3:=Ey hg.toAbu (s:=sT2) (es.length+1) hle false (hg.r (es.length+1));generalize Cb c (es.length+1) false sT2=q at *
     obtain⟨⟨xq3,yq3,zq3,vq3,lq3⟩,sT3⟩:=q;dsimp only at t3 |-;rw[Bp] at t3;have t4:=Ey hg.toAbu (s:=sT3) (es.length+1) hle false (hg.r (es.length+1));generalize Cb c (es.length+1) false sT3=q at *
     obtain⟨⟨xq4,yq4,zq4,vq4,lq4⟩,sT4⟩:=q;dsimp only at t4 |-;rw[Bp] at t4;have t5:=Ey hg.toAbu (s:=sT4) (es.length+1) hle true (hg.r (es.length+1));generalize Cb c (es.length+1) true sT4=q at *
     obtain⟨⟨xq5,yq5,zq5,vq5,lq5⟩,sT5⟩:=q;dsimp only at t5 |-;rw[Bp] at t5
     first|rw[if_neg (show ¬(true=false) by decide)]|skip
     have Av:List.take (es.length+1) (Dg e::es.map Dg)=Dg e::es.map Dg:=q_js (by simp);rw[Ku];unfold Co at ci c5 c6 t1 t2 t3 t4 t5 |-;simp only[hb] at ci c5
     repeat' first
     |simp (config:={ maxSteps:=4000000 }) only[go_sem,seval,hb,zx,xb,z5,xqV,Ft,Bp,q_h,q_jk,q_g,if_true,if_false,q_l,Av,Dz,List.take_succ_cons,List.take_zero,List.drop_succ_cons,List.drop_zero,q_km,q_kl]
     |refine Ac ci ?_
     |refine Ac c5 ?_
     |refine Ac c6 ?_
     |refine Ac t1 ?_
     |refine Ac t2 ?_
     |refine Ac t3 ?_
     |refine Ac t4 ?_
     |refine Ac t5 ?_
     all_goals first|exact⟨rfl,rfl⟩|rfl
    ·have c5:=Ix (c:=c) (s:=sx) hn 2;have k5:(Bs c sx 2).2.k<=c.L.length:=Kd Iu;generalize Bs c sx 2=q5 at *
     obtain⟨w5,s5⟩:=q5;dsimp only at c5 k5 |-;have c6:=Ky (c:=c) (s:=s5) hn;generalize Dj c s5=q6 at *
     obtain⟨li,s6⟩:=q6;dsimp only at c6 |-;have t1:=Ey hg.toAbu (s:=s6) (es.length+1) hle false (hg.r (es.length+1));generalize Cb c (es.length+1) false s6=q at *
     obtain⟨⟨xq1,yq1,zq1,vq1,lq1⟩,sT1⟩:=q;dsimp only at t1 |-;rw[Bp] at t1;have t2:=Ey hg.toAbu (s:=sT1) (es.length+1) hle false (hg.r (es.length+1));generalize Cb c (es.length+1) false sT1=q at *
     obtain⟨⟨xq2,yq2,zq2,vq2,lq2⟩,sT2⟩:=q;dsimp only at t2 |-;rw[Bp] at t2;have t3:=Ey hg.toAbu (s:=sT2) (es.length+1) hle false (hg.r (es.length+1));generalize Cb c (es.length+1) false sT2=q at *
     obtain⟨⟨xq3,yq3,zq3,vq3,lq3⟩,sT3⟩:=q;dsimp only at t3 |-;rw[Bp] at t3;have t4:=Ey hg.toAbu (s:=sT3) (es.length+1) hle false (hg.r (es.length+1));generalize Cb c (es.length+1) false sT3=q at *
     obtain⟨⟨xq4,yq4,zq4,vq4,lq4⟩,sT4⟩:=q;dsimp only at t4 |-;rw[Bp] at t4;have t5:=Ey hg.toAbu (s:=sT4) (es.length+1) hle true (hg.r (es.length+1));generalize Cb c (es.length+1) true sT4=q at *
     obtain⟨⟨xq5,yq5,zq5,vq5,lq5⟩,sT5⟩:=q;dsimp only at t5 |-;rw[Bp] at t5
     first|rw[if_neg (show ¬(true=false) by decide)]|skip
     have Av:List.take (es.length+1) (Dg e::es.map Dg)=Dg e::es.map Dg:=q_js (by simp);rw[Ku];unfold Co at ci c5 c6 t1 t2 t3 t4 t5 |-;simp only[hb,hi] at ci c5
     repeat' first
     |simp (config:={ maxSteps:=4000000 }) only[go_sem,seval,hb,zx,xb,z5,xqV,Ft,Bp,q_h,q_jk,q_g,if_true,if_false,q_l,Av,Dz,List.take_succ_cons,List.take_zero,List.drop_succ_cons,List.drop_zero,q_km,q_kl]
     |refine Ac ci ?_
     |refine Ac c5 ?_
     |refine Ac c6 ?_
     |refine Ac t1 ?_
     |refine Ac t2 ?_
     |refine Ac t3 ?_
     |refine Ac t4 ?_
     |refine Ac t5 ?_
     all_goals first|exact⟨rfl,rfl⟩|rfl
 have hwb:(w==[116,101,114,109])=false:=by simp[hw]
 have hwb2:(w==[101,113,117,97,108])=false:=by simp[hw2]
 have eh:Gv c s=(false,Dn c s1 (s1.k-1)):=by unfold Gv;rw[Lf];simp only[hw,hw2,or_self,if_false,decide_false]
 have cfl:Cj 42 [Co c s1] [.gp 0 0,.int .i64 (IntKind.i64.wrap ((s1.k:Int)-1))] (.ret (.tup [])) [Co c (Dn c s1 (s1.k-1))]:=by
  cases hb1:s1.bad with
  |true=>
   have e:Dn c s1 (s1.k-1)=s1:=by unfold Dn Gj;rw[if_pos hb1]
   rw[e];exact Avk hb1 _
  |false=>
   have hkk:∃k:Nat,s1.k=k+1/\k<c.L.length:=by
    cases hb:s.bad with
    |true=>rw[Abi hb] at Lf;cases Lf;rw[hb] at hb1;cases hb1
    |false=>
     rcases Abk (c:=c) hb 3 with⟨h,h1,_⟩|⟨a,h⟩
     ·rw[Lf] at h;cases h;exact⟨s.k,rfl,h1⟩
     ·rw[Lf] at h;cases h;cases hb1
   obtain⟨k,Dt,hk4⟩:=hkk;have Zm:IntKind.i64.wrap ((s1.k:Int)-1)=((s1.k-1:Nat):Int):=by rw[Dt,w64 (by unfold fit;omega)];omega
   rw[Zm];exact Vw hn _
 have hk9:(Dn c s1 (s1.k-1)).k<=c.L.length:=by unfold Dn Gj;split<;>exact Ff
 generalize Dn c s1 (s1.k-1)=s9 at *
 unfold Je;rw[eh];dsimp only;have c2:=Ix (c:=c) (s:=s9) hn 1;have Gp:=Kd (c:=c) (kd:=1) hk9;generalize Bs c s9 1=q2 at *
 obtain⟨w2,s2⟩:=q2;simp only at *
 generalize hR:Fc c (c.L.length+1) [] s2=R at *
 unfold Co at c1 c2 cfl |-
 repeat' first
 |simp only[go_sem,seval,hwb,hwb2]
 |refine Ac c1 ?_
 |refine Ac c2 ?_
 |refine Ac cfl ?_
 refine Hv (Xp c false) (fun a=>muQ c a.2) (fun a=>a.2.k<=c.L.length/\a.1.length<=a.2.k+1/\(a.2.bad=false->a.1.length<=a.2.k)/\∃f,muQ c a.2<=f/\Fc c f a.1 a.2=R) (fun a ha=>?_) ([],s2) ⟨Gp,Nat.zero_le _,fun _=>Nat.zero_le _,c.L.length+1,by unfold muQ;split<;>omega,hR⟩ (by rw[Nb];unfold Co;exact Bv (by simp[Bm]));obtain⟨es,sx⟩:=a;obtain⟨Iu,Fd,Ok,f,hf,hq⟩:=ha;simp only at Iu Fd Ok hf hq;have ci:=Yo (c:=c) (s:=sx) hn 2
 by_cases hgo:sx.bad=false/\isQ c sx 2=false
 ·obtain⟨f,rfl⟩:∃g,f=g+1:=⟨f-1,by unfold muQ at hf;rw[hgo.1,if_neg (by simp)] at hf;omega⟩
  have Yr:=Ok hgo.1;rw[Fc,if_pos hgo] at hq;have cl:=Ky (c:=c) (s:=sx) hn;have kl:=Aep (c:=c) Iu;generalize Dj c sx=q3 at *
  obtain⟨i,s3⟩:=q3;simp only at cl kl hq;have ct:=Ey hg.toAbu (s:=s3) es.length (by have:=hg.m;have:=hg.l;omega) false (hg.r es.length);have kt:=Afn hg.toAbu es.length false (s:=s3) kl.1;generalize Cb c es.length false s3=q4 at *
  obtain⟨t,s4⟩:=q4;simp only at ct kt hq;have hmu:muQ c s4<muQ c sx/\muQ c s4<=f:=by
   unfold muQ at hf |-;simp only[hgo.1,q_l,if_false] at hf |-;cases Mf:s4.bad with
   |true=>simp only[if_true];omega
   |false=>
    have a1:=kt.2.2 Mf;simp only[q_l,if_false];have:=kl.2.1;have:=kt.1;omega
  have hk4:es.length+1<=s4.k+1/\(s4.bad=false->es.length+1<=s4.k):=by
   have a1:=kl.2.1;have a2:=kt.2.1;exact⟨by omega,fun Mf=>by have:=kt.2.2 Mf;omega⟩
  have hb:=hgo.1;have hi:=hgo.2;rw[hi] at ci;cases es with
  |nil=>
   rw[Nb];unfold Co at ci cl ct |-;simp only[hb] at ci cl
   repeat' first
   |simp only[go_sem,seval,hb,Rm,Qk,zx,xb,z5,q_km,q_kl]
   |refine Ac ci ?_
   |refine Ac cl ?_
   |refine Ac ct ?_
   refine⟨([(t,i)],s4),⟨hmu.1,kt.1,hk4.1,hk4.2,f,hmu.2,hq⟩,?_⟩;rw[Ku];unfold Co zx xb z5;exact Fx 5 (by simp[Bm]) (by simp) (by simp[Dm]) (by simp[gOb,Dm])
  |cons e es=>
   have hset:∀u v:List SV,((e::es).map Dg++[u]).set (es.length+1) v=(e::es).map Dg++[v]:=fun u v=>by
    rw[List.set_append_right _ _ (by simp),q_g,q_jk,Nat.sub_self,List.set_cons_zero]
   have Aix:es.length+1<=1000000:=by have:=hg.m;have:=hg.l;simp only[q_jk] at Yr;omega
   rw[Ku];unfold Co at ci cl ct |-;simp only[hb] at ci cl
   repeat' first
   |simp only[go_sem,seval,hb,Rm,Qk,zx,xb,z5,q_km,q_kl]
   |refine Ac ci ?_
   |refine Ac cl ?_
   |refine Ac ct ?_
   refine⟨⟨by simp,by omega,by omega⟩,?_⟩;refine⟨(e::(es++[(t,i)]),s4),⟨hmu.1,kt.1,by simpa using hk4.1,fun h=>by simpa using hk4.2 h,f,hmu.2,hq⟩,?_⟩;rw[Ku];unfold Co zx xb z5;simp only[q_h,q_kt,q_i,q_jr,q_jk,List.length_nil,q_g,q_jg,q_km,q_kl];exact Fx 5 (by simp[Bm]) (by simp) (by simp[Dm]) (by simp[gOb,Dm])
 ·have Iv:Fc c f es sx=(es,sx):=by cases f with
   |zero=>rfl
   |succ f=>rw[Fc,if_neg hgo]
  rw[Iv] at hq;subst hq;dsimp only;have hle:es.length<=1000000:=by have:=hg.m;have:=hg.l;omega
  have Kx:sx.bad=true\/(sx.bad=false/\isQ c sx 2=true):=by
   cases hb:sx.bad with
   |true=>exact .inl rfl
   |false=>
    cases hi:isQ c sx 2 with
    |true=>exact .inr ⟨rfl,rfl⟩
    |false=>exact absurd ⟨hb,hi⟩ hgo
  obtain⟨N,hN⟩:∃N,es.length=N:=⟨_,rfl⟩
  rw[hN] at hle |-;clear Fd Ok hf Iv hR hgo;cases es with
  |nil=>
   obtain rfl:N=0:=by simpa using hN.symm
   rcases Kx with hb|⟨hb,hi⟩
   ·have c5:=Ix (c:=c) (s:=sx) hn 2;have k5:(Bs c sx 2).2.k<=c.L.length:=Kd Iu;generalize Bs c sx 2=q5 at *
    obtain⟨w5,s5⟩:=q5;dsimp only at c5 k5 |-;have c6:=Ky (c:=c) (s:=s5) hn;generalize Dj c s5=q6 at *
    obtain⟨li,s6⟩:=q6;dsimp only at c6 |-;have t1:=Ey hg.toAbu (s:=s6) 0 hle false (hg.r 0);generalize Cb c 0 false s6=q at *
    obtain⟨⟨xq1,yq1,zq1,vq1,lq1⟩,sT1⟩:=q;dsimp only at t1 |-;rw[Bp] at t1;have t2:=Ey hg.toAbu (s:=sT1) 0 hle false (hg.r 0);generalize Cb c 0 false sT1=q at *
    obtain⟨⟨xq2,yq2,zq2,vq2,lq2⟩,sT2⟩:=q;dsimp only at t2 |-;rw[Bp] at t2
    first|rw[if_pos (rfl:false=false)]|skip
    rw[Nb];unfold Co at ci c5 c6 t1 t2 |-;simp only[hb] at ci c5
    repeat' first
    |simp (config:={ maxSteps:=4000000 }) only[go_sem,seval,hb,zx,xb,z5,xqV,Ft,Bp,q_h,q_jk,q_g,if_true,if_false,q_l,Dz,List.take_succ_cons,List.take_zero,List.drop_succ_cons,List.drop_zero,q_km,q_kl]
    |refine Ac ci ?_
    |refine Ac c5 ?_
    |refine Ac c6 ?_
    |refine Ac t1 ?_
    |refine Ac t2 ?_
    all_goals first|exact⟨rfl,rfl⟩|rfl
   ·have c5:=Ix (c:=c) (s:=sx) hn 2;have k5:(Bs c sx 2).2.k<=c.L.length:=Kd Iu;generalize Bs c sx 2=q5 at *
    obtain⟨w5,s5⟩:=q5;dsimp only at c5 k5 |-;have c6:=Ky (c:=c) (s:=s5) hn;generalize Dj c s5=q6 at *
    obtain⟨li,s6⟩:=q6;dsimp only at c6 |-;have t1:=Ey hg.toAbu (s:=s6) 0 hle false (hg.r 0);generalize Cb c 0 false s6=q at *
    obtain⟨⟨xq1,yq1,zq1,vq1,lq1⟩,sT1⟩:=q;dsimp only at t1 |-;rw[Bp] at t1;have t2:=Ey hg.toAbu (s:=sT1) 0 hle false (hg.r 0);generalize Cb c 0 false sT1=q at *
    obtain⟨⟨xq2,yq2,zq2,vq2,lq2⟩,sT2⟩:=q;dsimp only at t2 |-;rw[Bp] at t2
    first|rw[if_pos (rfl:false=false)]|skip
    rw[Nb];unfold Co at ci c5 c6 t1 t2 |-;simp only[hb,hi] at ci c5
    repeat' first
    |simp (config:={ maxSteps:=4000000 }) only[go_sem,seval,hb,zx,xb,z5,xqV,Ft,Bp,q_h,q_jk,q_g,if_true,if_false,q_l,Dz,List.take_succ_cons,List.take_zero,List.drop_succ_cons,List.drop_zero,q_km,q_kl]
    |refine Ac ci ?_
    |refine Ac c5 ?_
    |refine Ac c6 ?_
    |refine Ac t1 ?_
    |refine Ac t2 ?_
    all_goals first|exact⟨rfl,rfl⟩|rfl
  |cons e es=>
   obtain rfl:N=es.length+1:=by simpa using hN.symm
   rcases Kx with hb|⟨hb,hi⟩
   ·have c5:=Ix (c:=c) (s:=sx) hn 2;have k5:(Bs c sx 2).2.k<=c.L.length:=Kd Iu;generalize Bs c sx 2=q5 at *
    obtain⟨w5,s5⟩:=q5;dsimp only at c5 k5 |-;have c6:=Ky (c:=c) (s:=s5) hn;generalize Dj c s5=q6 at *
    obtain⟨li,s6⟩:=q6;dsimp only at c6 |-;have t1:=Ey hg.toAbu (s:=s6) (es.length+1) hle false (hg.r (es.length+1));generalize Cb c (es.length+1) false s6=q at *
    obtain⟨⟨xq1,yq1,zq1,vq1,lq1⟩,sT1⟩:=q;dsimp only at t1 |-;rw[Bp] at t1;have t2:=Ey hg.toAbu (s:=sT1) (es.length+1) hle false (hg.r (es.length+1));generalize Cb c (es.length+1) false sT1=q at *
    obtain⟨⟨xq2,yq2,zq2,vq2,lq2⟩,sT2⟩:=q;dsimp only at t2 |-;rw[Bp] at t2
    first|rw[if_pos (rfl:false=false)]|skip
    have Av:List.take (es.length+1) (Dg e::es.map Dg)=Dg e::es.map Dg:=q_js (by simp);rw[Ku];unfold Co at ci c5 c6 t1 t2 |-;simp only[hb] at ci c5
    repeat' first
    |simp (config:={ maxSteps:=4000000 }) only[go_sem,seval,hb,zx,xb,z5,xqV,Ft,Bp,q_h,q_jk,q_g,if_true,if_false,q_l,Av,Dz,List.take_succ_cons,List.take_zero,List.drop_succ_cons,List.drop_zero,q_km,q_kl]
    |refine Ac ci ?_
    |refine Ac c5 ?_
    |refine Ac c6 ?_
    |refine Ac t1 ?_
    |refine Ac t2 ?_
    all_goals first|exact⟨rfl,rfl⟩|rfl
   ·have c5:=Ix (c:=c) (s:=sx) hn 2;have k5:(Bs c sx 2).2.k<=c.L.length:=Kd Iu;generalize Bs c sx 2=q5 at *
    obtain⟨w5,s5⟩:=q5;dsimp only at c5 k5 |-;have c6:=Ky (c:=c) (s:=s5) hn;generalize Dj c s5=q6 at *
    obtain⟨li,s6⟩:=q6;dsimp only at c6 |-;have t1:=Ey hg.toAbu (s:=s6) (es.length+1) hle false (hg.r (es.length+1));generalize Cb c (es.length+1) false s6=q at *
    obtain⟨⟨xq1,yq1,zq1,vq1,lq1⟩,sT1⟩:=q;dsimp only at t1 |-;rw[Bp] at t1;have t2:=Ey hg.toAbu (s:=sT1) (es.length+1) hle false (hg.r (es.length+1));generalize Cb c (es.length+1) false sT1=q at *
    obtain⟨⟨xq2,yq2,zq2,vq2,lq2⟩,sT2⟩:=q;dsimp only at t2 |-;rw[Bp] at t2
    first|rw[if_pos (rfl:false=false)]|skip
    have Av:List.take (es.length+1) (Dg e::es.map Dg)=Dg e::es.map Dg:=q_js (by simp);rw[Ku];unfold Co at ci c5 c6 t1 t2 |-;simp only[hb,hi] at ci c5
    repeat' first
    |simp (config:={ maxSteps:=4000000 }) only[go_sem,seval,hb,zx,xb,z5,xqV,Ft,Bp,q_h,q_jk,q_g,if_true,if_false,q_l,Av,Dz,List.take_succ_cons,List.take_zero,List.drop_succ_cons,List.drop_zero,q_km,q_kl]
    |refine Ac ci ?_
    |refine Ac c5 ?_
    |refine Ac c6 ?_
    |refine Ac t1 ?_
    |refine Ac t2 ?_
    all_goals first|exact⟨rfl,rfl⟩|rfl
end
open Go Go.RowKit
section
variable{c:RC}{T:TR}{B:Nat}
structure AtB(c:RC)(B:Nat):Prop where
 e:c.e<=B
 p:∀k,k<c.L.length->(c.tk k).p<=B
def Pk(h:AtB c B){s:RS}(hs:s.at_<=B)(k:Nat):(Bl c s k).at_<=B:=by
 unfold Bl;split
 ·exact hs
 ·dsimp only;split
  ·rename_i hk;exact h.p k hk
  ·exact h.e
def Uo(h:AtB c B){s:RS}(hs:s.at_<=B)(k:Nat):(Ad c s k).2.at_<=B:=by
 unfold Ad;split
 ·exact hs
 ·exact Pk h hs _
def Ax5(h:AtB c B){lev:RS->Nat×RS}(hl:∀s,s.at_<=B->(lev s).2.at_<=B){s:RS}(hs:s.at_<=B):(Fw c lev s).2.at_<=B:=by
 unfold Fw;refine Uo h ?_ 2;split
 ·exact hl s.nx hs
 split
 ·exact hl _ (hl s.nx hs)
 ·exact Pk h hs _
def Aer(h:AtB c B):∀(f:Nat) {s:RS},s.at_<=B->(Af c f s).2.at_<=B:=by
 intro f
 induction f with
 |zero=>intro s hs;exact hs
 |succ f ih=>
  intro s hs;unfold Af;have key:∀(q:Nat×RS),q.2.at_<=B->(if q.2.bad=false/\1000<q.1 then Bl c q.2 s.k else q.2).at_<=B:=fun q hq=>by
   split
   ·exact Pk h hq _
   ·exact hq
  split
  ·refine key _ ?_
   repeat' split
   ·exact hs
   ·exact hs
   ·exact hs
   ·exact Ax5 h (fun s hs=>ih hs) hs
   ·exact Pk h hs _
  ·exact Pk h hs _
def Ayq(h:AtB c B){s:RS}(hs:s.at_<=B)(ns:List By):(Iw c ns s).2.at_<=B:=by
 unfold Iw;split
 ·exact hs
 ·exact Pk h hs _
def Aya(hT:∀ns w s,s.at_<=B->(T ns w s).2.at_<=B)(ns:List By):∀(m:Nat) {s:RS},s.at_<=B->(Ec T ns m s).2.at_<=B:=by
 intro m
 induction m with
 |zero=>intro s hs;exact hs
 |succ m ih=>intro s hs;exact ih (hT _ _ _ hs)
def Awx(h:AtB c B)(hT:∀ns w s,s.at_<=B->(T ns w s).2.at_<=B)(ns:List By)(k:Nat)(ch:UInt8)(x:AccR){s:RS}(hs:s.at_<=B):(Dh c T ns k ch x s).2.at_<=B:=by
 unfold Dh;split
 ·exact Aer h _ hs
 split
 ·split
  ·exact Aya hT ns (arN x.n) (s:={ (Af c (c.L.length+1) s).2 with D:=[] }) (Aer h _ hs)
  ·exact Aer h _ hs
 split
 ·dsimp only;split
  ·exact Uo h hs 3
  ·exact Pk h (Uo h hs 3) _
 repeat' split
 ·exact Uo h hs 3
 ·exact hT _ _ _ hs
 ·exact hT _ _ _ hs
 ·exact hT _ _ _ hs
def Axy(h:AtB c B)(hT:∀ns w s,s.at_<=B->(T ns w s).2.at_<=B)(ns:List By)(k:Nat):∀(sh:By) (x:AccR) {s:RS},s.at_<=B->(Ds c T ns k sh x s).2.at_<=B:=by
 intro sh
 induction sh with
 |nil=>intro x s hs;exact hs
 |cons ch r ih=>
  intro x s hs;rw[Ds];split
  ·exact hs
  ·exact ih _ (Awx h hT ns k ch x hs)
def A2h(h:AtB c B):∀(f:Nat) (ns:List By) (w:Nat) (s:RS),s.at_<=B->(Bw c f ns w s).2.at_<=B:=by
 intro f
 induction f with
 |zero=>intro ns w s hs;exact hs
 |succ f ih=>
  intro ns w s hs;rw[Bw];split
  ·exact hs
  split
  ·exact Pk h hs _
  split
  ·exact Ayq h hs ns
  dsimp only;have h1:=Uo h hs 1;have h2:=Uo h h1 3;split
  ·exact h2
  split
  ·exact Pk h h2 _
  ·exact Uo h (Axy h ih ns _ _ _ h2) 2
end
def rc_L(tx:By)(i j:Nat):(rcR tx i j).L=(Bi tx).1/\(rcR tx i j).e=((Bi tx).2).getD tx.length:=by
 unfold rcR Em;cases h:Bi tx with
 |mk ts e=>
  cases e with
  |none=>simp
  |some p=>simp[Akg h]
def Aax(tx:By):((Bi tx).2).getD tx.length<=tx.length:=by
 have h:=(Jz tx).le.2.2;cases he:(Bi tx).2 with
 |none=>exact q_ja _
 |some p=>exact Nat.le_of_lt (h p he).1
def Akk(tx:By){k:Nat}(hk:k<(Bi tx).1.length):((Bi tx).1.getD k tk0).p+((Bi tx).1.getD k tk0).w.length<=tx.length:=by
 have h:=(Jz tx).ends.2 k hk;have:=Aax tx;omega
def A0l{tx:By}{ns:List By}{i j p:Nat}{t:Tm}(h:Gr tx ns i j=(t,some p)):p<=tx.length:=by
 obtain⟨h1,h2⟩:=rc_L tx i j;have hB:AtB (rcR tx i j) tx.length:=⟨by rw[h2];exact Aax tx,fun k hk=>by
  rw[h1] at hk;have:=Akk tx hk;show ((rcR tx i j).L.getD k tk0).p<=_;rw[h1];omega⟩
 unfold Gr at h;dsimp only at h;have hq:=A2h hB ((rcR tx i j).L.length+1) ns 0 ⟨0,false,0,[]⟩ (Nat.zero_le _);generalize Bw (rcR tx i j) ((rcR tx i j).L.length+1) ns 0 ⟨0,false,0,[]⟩=q at h hq;have hs:(if q.2.bad=false/\(q.2.k<(rcR tx i j).L.length\/(Bi tx).2.isSome=true) then Bl (rcR tx i j) q.2 q.2.k else q.2).at_<=tx.length:=by
  split
  ·exact Pk hB hq _
  ·exact hq
 generalize (if q.2.bad=false/\(q.2.k<(rcR tx i j).L.length\/(Bi tx).2.isSome=true) then Bl (rcR tx i j) q.2 q.2.k else q.2)=s at h hs
 by_cases hb:s.bad=true
 ·rw[if_pos hb] at h;cases h;exact hs
 ·rw[if_neg hb] at h;cases h
def Ahf{d:Nat}:∀(l:List Tok) (n:Nat),dep n (l.map (Tok.back d))=dep n l:=by
 intro l
 induction l with
 |nil=>intro n;rfl
 |cons t l ih=>
  intro n;show dep (Mc n (t.back d)) _=dep (Mc n t) l;rw[ih];rfl
def goodP(tx:By)(hm:tx.length<=3000):GoodP (qcR tx):=by
 obtain⟨hL,ht,he⟩:=qc_L tx;have hlx:=Jz tx;have hle:=hlx.le.2.1;have tk:∀k,(qcR tx).tk k=(Bi tx).1.getD k tk0:=fun k=>by unfold QC.tk;rw[hL];rfl
 refine⟨⟨by rw[ht];omega,by rw[hL,ht];omega,by rw[he,ht];exact Aax tx,?_,?_,?_⟩,?_,by rw[ht];omega⟩
 ·intro k hk;rw[tk,ht];rw[hL] at hk;exact Akk tx hk
 ·intro k q hk hq;unfold Gk at hq;rw[hL] at hk hq |-;obtain⟨q1,q2⟩:=Afj _ _ _ _ hq;rw[q_kg] at q2;refine⟨q1,by omega,?_⟩;rw[tk,tk];have:=hlx.order (k:=k) (k':=q-1) (by omega) (by omega);omega
 ·intro k ns hk hq;unfold Gk at hq;rw[hL] at hk hq;rw[ht,tk];rw[q_js (by rw[q_kg];exact q_ja _)];cases hr:Gr (tx.drop ((Bi tx).1.getD k tk0).p) ns 0 0 with
  |mk t o=>
   cases o with
   |some p=>exact⟨t,p,rfl⟩
   |none=>
    exfalso;obtain⟨g1,g2,_⟩:=Alq hr;have hx:=Akj hk;unfold Em at g2;rw[hx] at g1 g2;dsimp only at g1;rw[g1] at g2;dsimp only at g2;rw[Ahf] at g2;rcases A1r _ _ _ hq with h0|h0
    ·have:=congrArg List.length h0;rw[q_kg,List.length_nil] at this;omega
    ·exact h0 g2
 ·intro n k p t h;have:=A0l h;rw[q_kf,q_kg] at this;rw[ht] at this |-;omega
structure Pc(c c':RC)(k0 p0:Nat):Prop where
 i:c'.i=c.i
 j:c'.j=c.j
 len:c'.L.length+k0<=c.L.length
 k:∀i,i<c'.L.length->(c'.tk i).k=(c.tk (i+k0)).k
 w:∀i,i<c'.L.length->(c'.tk i).w=(c.tk (i+k0)).w
 p:∀i,i<c'.L.length->(c.tk (i+k0)).p=(c'.tk i).p+p0
 m:(c'.L.length+k0=c.L.length/\c.e=c'.e+p0)\/dep 0 c'.L=0
def Cor(k0 p0:Nat)(s' s:RS):Prop:=s'.bad=s.bad/\if s'.bad then s.at_=s'.at_+p0 else s.k=s'.k+k0
def Cor.good{k0 p0:Nat}{s' s:RS}(h:Cor k0 p0 s' s)(hb:s'.bad=false):s.bad=false/\s.k=s'.k+k0:=by
 have:=h.2;rw[hb,if_neg (by decide)] at this;exact⟨h.1.symm.trans hb,this⟩
def Cor.ill{k0 p0:Nat}{s' s:RS}(h:Cor k0 p0 s' s)(hb:s'.bad=true):s.bad=true/\s.at_=s'.at_+p0:=by
 have:=h.2;rw[hb,if_pos rfl] at this;exact⟨h.1.symm.trans hb,this⟩
def Cor.mk0{k0 p0:Nat}{s' s:RS}(h1:s'.bad=false)(h2:s.bad=false)(h3:s.k=s'.k+k0):Cor k0 p0 s' s:=⟨h1.trans h2.symm,by rw[h1,if_neg (by decide)];exact h3⟩
def Cor.mk1{k0 p0:Nat}{s' s:RS}(h1:s'.bad=true)(h2:s.bad=true)(h3:s.at_=s'.at_+p0):Cor k0 p0 s' s:=⟨h1.trans h2.symm,by rw[h1,if_pos rfl];exact h3⟩
def Dp(c':RC)(k:Nat):Prop:=k<=c'.L.length/\0<dep 0 (c'.L.take k)
def In(c c':RC)(k0 p0 k:Nat):Prop:=k<c'.L.length\/(c'.L.length+k0=c.L.length/\c.e=c'.e+p0)
section
variable{c c':RC}{k0 p0:Nat}
def Ame{c':RC}{a b:Nat}(h:a<=b):c'.L.take b=c'.L.take a++seg c' a b:=by
 unfold seg;rw[show b=a+(b-a) by omega,List.take_add,show a+(b-a)-a=b-a by omega]
def Ahe(d:Nat)(x y:List Tok):dep d (x++y)=dep (dep d x) y:=by unfold dep;rw[List.foldl_append]
def Dp.bal{c':RC}{a b:Nat}(h:Dp c' a)(k:Bal c' a b):Dp c' b:=⟨k.len,by rw[Ame k.le,Ahe,k.d];exact h.2⟩
def Dp.opens{c':RC}{a:Nat}(h:a<c'.L.length)(h1:(c'.tk a).k=1):Dp c' (a+1):=⟨h,by
 rw[Ame (Nat.le_succ a),Ahe,Abc h];show 0<Mc (dep 0 (c'.L.take a)) (c'.tk a);unfold Mc;rw[if_pos h1];omega⟩
def Dp.inn(hP:Pc c c' k0 p0){k:Nat}(h:Dp c' k):In c c' k0 p0 k:=by
 rcases hP.m with hm|hm
 ·exact .inr hm
 ·refine .inl (Nat.lt_of_le_of_ne h.1 (fun e=>?_));have:=h.2;rw[e,q_kk,hm] at this;omega
def Xu{c:RC}{s:RS}{i:Nat}(h:s.bad=false):(Bl c s i).at_=if i<c.L.length then (c.tk i).p else c.e:=by
 unfold Bl;rw[if_neg (by rw[h];decide)]
def Tb(hP:Pc c c' k0 p0){s' s:RS}(h:Cor k0 p0 s' s){i:Nat}(hi:In c c' k0 p0 i):Cor k0 p0 (Bl c' s' i) (Bl c s (i+k0)):=by
 rcases Bool.eq_false_or_eq_true s'.bad with hb|hb
 ·rw[Rp hb,Rp (h.ill hb).1];exact h
 ·have Ci:=(h.good hb).1;refine .mk1 (Gz _) (Gz _) ?_;rw[Xu hb,Xu Ci]
  by_cases hl:i<c'.L.length
  ·rw[if_pos hl,if_pos (show i+k0<c.L.length by have:=hP.len;omega),hP.p i hl]
  ·obtain⟨e1,e2⟩:=hi.resolve_left hl;rw[if_neg hl,if_neg (show ¬i+k0<c.L.length by omega),e2]
def Zv(hP:Pc c c' k0 p0){s' s:RS}(h:Cor k0 p0 s' s){kd:Nat}(hi:s'.bad=false->In c c' k0 p0 s'.k):Cor k0 p0 (Ad c' s' kd).2 (Ad c s kd).2/\(Ad c' s' kd).1=(Ad c s kd).1:=by
 rcases Bool.eq_false_or_eq_true s'.bad with hb|hb
 ·rw[Lx hb,Lx (h.ill hb).1];exact⟨h,rfl⟩
 ·obtain⟨Ci,hk⟩:=h.good hb;have hin:=hi hb;have hf:=Tb hP h hin;unfold Ad;rw[hk]
  by_cases hl:s'.k<c'.L.length
  ·have hl2:s'.k+k0<c.L.length:=by have:=hP.len;omega
   rw[<-hP.k _ hl,<-hP.w _ hl]
   by_cases hq:(c'.tk s'.k).k=kd
   ·rw[if_pos ⟨hb,hl,hq⟩,if_pos ⟨Ci,hl2,hq⟩];exact⟨.mk0 hb Ci (by show s.k+1=s'.k+1+k0;omega),rfl⟩
   ·rw[if_neg (fun k=>hq k.2.2),if_neg (fun k=>hq k.2.2)];exact⟨hf,rfl⟩
  ·obtain⟨e1,e2⟩:=hin.resolve_left hl;rw[if_neg (fun k=>hl k.2.1),if_neg (fun k=>by have:=k.2.1;omega)];exact⟨hf,rfl⟩
def Auo(hP:Pc c c' k0 p0){q' q:Nat×RS}(h:Cor k0 p0 q'.2 q.2)(hv:q'.2.bad=false->q'.1=q.1){i:Nat}(hi:i<c'.L.length) :
  Cor k0 p0 (if q'.2.bad=false/\1000<q'.1 then Bl c' q'.2 i else q'.2) (if q.2.bad=false/\1000<q.1 then Bl c q.2 (i+k0) else q.2)/\((if q'.2.bad=false/\1000<q'.1 then Bl c' q'.2 i else q'.2).bad=false->q'.1=q.1):=by
 rcases Bool.eq_false_or_eq_true q'.2.bad with hb|hb
 ·rw[if_neg (fun k=>by rw[hb] at k;cases k.1),if_neg (fun k=>by rw[(h.ill hb).1] at k;cases k.1)];exact⟨h,hv⟩
 ·obtain⟨Ci,hk⟩:=h.good hb;have e:=hv hb;rw[<-e]
  by_cases hm:1000<q'.1
  ·rw[if_pos ⟨hb,hm⟩,if_pos ⟨Ci,hm⟩];exact⟨Tb hP h (.inl hi),fun _=>rfl⟩
  ·rw[if_neg (fun k=>hm k.2),if_neg (fun k=>hm k.2)];exact⟨h,fun _=>rfl⟩
def LvS(c c':RC)(k0 p0:Nat)(l' l:RS->Nat×RS)(f' f:Nat):Prop:=∀s' s,Cor k0 p0 s' s->(s'.bad=false->Dp c' s'.k/\c'.L.length-s'.k<f')->(s.bad=false->c.L.length-s.k<f) ->
 Cor k0 p0 (l' s').2 (l s).2/\((l' s').2.bad=false->(l' s').1=(l s).1)
def Ax9(hP:Pc c c' k0 p0){l' l:RS->Nat×RS}{f' f:Nat}(hl:LvS c c' k0 p0 l' l f' f)(hk:∀s,s.k<=(l' s).2.k)(Gp:∀s,s.k<=(l s).2.k)(hB:∀s,(l' s).2.bad=false->s.bad=false/\(s.k<=c'.L.length->Bal c' s.k (l' s).2.k))(hB2:∀s,(l s).2.bad=false->s.bad=false)
  {s' s:RS} (h:Cor k0 p0 s' s) (hb:s'.bad=false) (hd:Dp c' s'.k) (hm:c'.L.length-s'.k<f'+1) (hm2:c.L.length-s.k<f+1):Cor k0 p0 (Fw c' l' s').2 (Fw c l s).2/\((Fw c' l' s').2.bad=false->(Fw c' l' s').1=(Fw c l s).1):=by
 obtain⟨Ci,he⟩:=h.good hb;have hin:=hd.inn hP;have hf:=Tb hP h hin;have third:∀(x' x:RS),Cor k0 p0 x' x->x'.bad=true->Cor k0 p0 (Ad c' x' 2).2 (Ad c x 2).2/\((Ad c' x' 2).2.bad=false->(0:Nat)=0):=fun x' x hx hxb=>by
  rw[Lx hxb,Lx (hx.ill hxb).1];exact⟨hx,fun _=>rfl⟩
 unfold Fw;rw[he]
 by_cases Am:s'.k<c'.L.length
 rotate_left
 ·obtain⟨e1,e2⟩:=hin.resolve_left Am;rw[if_neg (fun k=>Am k.1),if_neg (fun k=>Am k.1),if_neg (fun k=>by have:=k.1;omega),if_neg (fun k=>by have:=k.1;omega)];exact third _ _ hf (Gz _)
 have Sf:s'.k+k0<c.L.length:=by have:=hP.len;omega
 rw[<-hP.k _ Am,<-hP.w _ Am];have hN:Cor k0 p0 s'.nx s.nx:=.mk0 hb Ci (by show s.k+1=s'.k+1+k0;omega)
 by_cases ha:(c'.tk s'.k).k=3/\(c'.tk s'.k).w=[115,117,99]
 ·rw[if_pos ⟨Am,ha⟩,if_pos ⟨Sf,ha⟩];have hdn:Dp c' s'.nx.k:=hd.bal (Bal.word Am (by rw[ha.1];decide) (by rw[ha.1];decide));obtain⟨g1,g2⟩:=hl s'.nx s.nx hN (fun _=>⟨hdn,by show c'.L.length-(s'.k+1)<f';omega⟩) (fun _=>by show c.L.length-(s.k+1)<f;omega);have hnx:=Zv hP g1 (kd:=2) (fun hx=>(hdn.bal ((hB _ hx).2 hdn.1)).inn hP);refine⟨hnx.1,fun hx=>?_⟩;dsimp only at hx |-;rw[g2 (Io hx).1]
 by_cases ha2:(c'.tk s'.k).k=3/\(c'.tk s'.k).w=[109,97,120]
 ·rw[if_neg (fun k=>ha k.2),if_pos ⟨Am,ha2⟩,if_neg (fun k=>ha k.2),if_pos ⟨Sf,ha2⟩];have hdn:Dp c' s'.nx.k:=hd.bal (Bal.word Am (by rw[ha2.1];decide) (by rw[ha2.1];decide));obtain⟨g1,g2⟩:=hl s'.nx s.nx hN (fun _=>⟨hdn,by show c'.L.length-(s'.k+1)<f';omega⟩) (fun _=>by show c.L.length-(s.k+1)<f;omega);have m1:=hk s'.nx;have m2:=Gp s.nx;obtain⟨g3,g4⟩:=hl _ _ g1 (fun hx=>⟨hdn.bal ((hB _ hx).2 hdn.1),by have:s'.nx.k=s'.k+1:=rfl;omega⟩) (fun _=>by have:s.nx.k=s.k+1:=rfl;omega);have hnx:=Zv hP g3 (kd:=2) (fun hx=>by
   obtain⟨b1,b2⟩:=hB _ hx;have d1:=hdn.bal ((hB _ b1).2 hdn.1);exact (d1.bal (b2 d1.1)).inn hP)
  refine⟨hnx.1,fun hx=>?_⟩;dsimp only at hx |-;have b1:=(Io hx).1;rw[g4 b1,g2 (hB _ b1).1]
 ·rw[if_neg (fun k=>ha k.2),if_neg (fun k=>ha2 k.2),if_neg (fun k=>ha k.2),if_neg (fun k=>ha2 k.2)];exact third _ _ hf (Gz _)
def Np(c:RC)(lev:RS->Nat×RS)(s:RS):Nat×RS:=
 if (c.tk s.k).k=4 then ((Do (c.tk s.k).w).getD 0,s.nx)
 else if (c.tk s.k).k=3/\(c.tk s.k).w=[105] then (c.i,s.nx)
 else if (c.tk s.k).k=3/\(c.tk s.k).w=[106] then (c.j,s.nx)
 else if (c.tk s.k).k=1 then Fw c lev s.nx
 else (0,Bl c s s.k)
def Aes{c:RC}{f:Nat}{s:RS}(h1:s.bad=false)(h2:s.k<c.L.length):Af c (f+1) s=((Np c (Af c f) s).1,if (Np c (Af c f) s).2.bad=false/\1000<(Np c (Af c f) s).1 then Bl c (Np c (Af c f) s).2 s.k else (Np c (Af c f) s).2):=by
 rw[Af,if_pos ⟨h1,h2⟩];rfl
def Akf{c:RC}{f:Nat}{s:RS}(h2:¬s.k<c.L.length):Af c (f+1) s=(0,Bl c s s.k):=by
 rw[Af,if_neg (fun k=>h2 k.2)]
def Axg(hP:Pc c c' k0 p0):∀(f' f:Nat),LvS c c' k0 p0 (Af c' f') (Af c f) f' f:=by
 intro f'
 induction f' with
 |zero=>
  intro f s' s h h1 _;rcases Bool.eq_false_or_eq_true s'.bad with hb|hb
  ·rw[Oz hb,Oz (h.ill hb).1];exact⟨h,fun hx=>by rw[hb] at hx;cases hx⟩
  ·exact absurd (h1 hb).2 (by omega)
 |succ f' ih=>
  intro f s' s h h1 h2;rcases Bool.eq_false_or_eq_true s'.bad with hb|hb
  ·rw[Oz hb,Oz (h.ill hb).1];exact⟨h,fun hx=>by rw[hb] at hx;cases hx⟩
  obtain⟨Ci,he⟩:=h.good hb;obtain⟨hd,hm⟩:=h1 hb;have hm2:=h2 Ci;have hin:=hd.inn hP;have hf:=Tb hP h hin;cases f with
  |zero=>omega
  |succ f=>
  by_cases Am:s'.k<c'.L.length
  rotate_left
  ·obtain⟨e1,e2⟩:=hin.resolve_left Am;rw[Akf Am,Akf (show ¬s.k<c.L.length by omega),he];exact⟨hf,fun _=>rfl⟩
  have Sf:s.k<c.L.length:=by have:=hP.len;omega
  rw[Aes hb Am,Aes Ci Sf];have hN:Cor k0 p0 s'.nx s.nx:=.mk0 hb Ci (by show s.k+1=s'.k+1+k0;omega);have key:Cor k0 p0 (Np c' (Af c' f') s').2 (Np c (Af c f) s).2/\((Np c' (Af c' f') s').2.bad=false->(Np c' (Af c' f') s').1=(Np c (Af c f) s).1):=by
   unfold Np;rw[he,<-hP.k _ Am,<-hP.w _ Am,<-hP.i,<-hP.j]
   by_cases t4:(c'.tk s'.k).k=4
   ·simp only[if_pos t4];exact⟨hN,fun _=>trivial⟩
   simp only[if_neg t4]
   by_cases t5:(c'.tk s'.k).k=3/\(c'.tk s'.k).w=[105]
   ·simp only[if_pos t5];exact⟨hN,fun _=>trivial⟩
   simp only[if_neg t5]
   by_cases t6:(c'.tk s'.k).k=3/\(c'.tk s'.k).w=[106]
   ·simp only[if_pos t6];exact⟨hN,fun _=>trivial⟩
   simp only[if_neg t6]
   by_cases t1:(c'.tk s'.k).k=1
   ·simp only[if_pos t1];exact Ax9 hP (ih f) (Ei f') (Ei f) (fun s h=>⟨(Nq f' s h).1,(Nq f' s h).2.2⟩) (fun s h=>(Nq f s h).1) hN hb (Dp.opens Am t1) (by show c'.L.length-(s'.k+1)<f'+1;omega) (by show c.L.length-(s.k+1)<f+1;omega)
   ·simp only[if_neg t1];exact⟨hf,fun _=>trivial⟩
  have:=Auo hP key.1 key.2 Am;rw[he];exact this
end
end Go.Proofs.YtgfehkhcmnfpaaaGreatDoor.Abs
