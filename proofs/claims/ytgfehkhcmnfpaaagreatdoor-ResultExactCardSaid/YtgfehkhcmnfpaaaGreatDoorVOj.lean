import Derived.Test.YtgfehkhcmnfpaaaGreatDoorVOh
set_option linter.all false
set_option maxRecDepth 20000
set_option maxHeartbeats 4000000
namespace Go.Proofs.YtgfehkhcmnfpaaaGreatDoor.Abs
open Go Go.RowKit Go.Proofs.YtgfehkhcmnfpaaaGreatDoor
section
variable{c:RC}{T:TR}{f:Nat}{ns:List By}{k:Nat}{s:RS}{G:GV}
def lg_L(hc:Fz c)(hT:TCG c T f)(Cc:ns.length+3*f+2<100000000000)(hk:k<=12)(hb:s.bad=false)(hN:NGr s.D)(hG:NGr G)(hs:c.L.length<s.k+f):LCG c T ns k [76] s G:=by
 obtain⟨k0,b0,a0,D0⟩:=s;simp only at hs hN hb;subst hb;have Ar:ofR k=1:=by unfold ofR;rw[if_pos hk]
 have Fm:(k:Int)<=12:=by omega
 have Bs:k≠23:=by omega
 have Am:((k:Int)==23)=false:=by rw[beq_eq_false_iff_ne];omega
 have c0:=Li (nm:=nmG ns) (G:=G++D0) hc (c.L.length+1) ⟨k0,false,a0,D0⟩ (q_ja _) (by simp only;omega) (by omega);have d0:=(Ll (c:=c) (c.L.length+1) ⟨k0,false,a0,D0⟩).symm;have m0:=Kw (c:=c) (c.L.length+1) ⟨k0,false,a0,D0⟩;generalize e0:Cy c (c.L.length+1) ⟨k0,false,a0,D0⟩=q at c0 d0 m0;obtain⟨u0,k1,b1,a1,E1⟩:=q;simp only at c0 d0 m0;subst d0;refine⟨?_,?_,?_⟩;rotate_left
 ·have eR:Aj c T ns k [76] ⟨k0,false,a0,D0⟩=(.mk k (u0:Nat) (0:Nat) 0 [],(An c ⟨k1,b1,a1,D0⟩ 2).2):=by simp only[Aj,Ax,Ay,Az,Bq,Ar,q_km,q_kn,e0];rfl
  rw[eR];refine q_ko ?_ (Cp 2);first|omega|(simp only;omega)
 ·have eR:Aj c T ns k [76] ⟨k0,false,a0,D0⟩=(.mk k (u0:Nat) (0:Nat) 0 [],(An c ⟨k1,b1,a1,D0⟩ 2).2):=by simp only[Aj,Ax,Ay,Az,Bq,Ar,q_km,q_kn,e0];rfl
  rw[eR];rw[Bm];exact hN
 refine Hg (r:=.agg true (tvn (Aj c T ns k [76] ⟨k0,false,a0,D0⟩).1)) ?_ (Ip _);have Ly:1<=140737488355328:=by decide
 refine Cl mixed Tryz.func190 tr190 ?_;unfold rdS at c0 |-;simp only[go_sem,seval,Fm];refine Ff 2 (Bk ?_);simp only[go_sem,seval,v76,wq7,wq8,Am];refine Ai c0 ?_;simp only[go_sem,seval,v76,wq7,wq8,Am];refine Bk ?_;have ce:=Cj (nm:=nmG ns) (s:=⟨k1,b1,a1,D0⟩) (G:=G++D0) hc 2;have eR:Aj c T ns k [76] ⟨k0,false,a0,D0⟩=(.mk k (u0:Nat) (0:Nat) 0 [],(An c ⟨k1,b1,a1,D0⟩ 2).2):=by simp only[Aj,Ax,Ay,Az,Bq,Ar,q_km,q_kn,e0];rfl
 rw[eR,Bm,Hv];unfold rdS at ce;simp only[go_sem,seval,v76,wq7,wq8,Am];refine Ai ce ?_;simp only[go_sem,seval,v76,wq7,wq8,Am,q_h,q_i]
def Ak9(hc:Fz c)(hT:TCG c T f)(Cc:ns.length+3*f+2<100000000000)(hk:12<k/\k≠23)(hb:s.bad=false)(hN:NGr s.D)(hG:NGr G)(hs:c.L.length<s.k+f):LCG c T ns k [116,116] s G:=by
 obtain⟨k0,b0,a0,D0⟩:=s;simp only at hs hN hb;subst hb;have Ar:ofR k=2:=by unfold ofR;rw[if_neg (by omega)]
 have Fm:¬(k:Int)<=12:=by omega
 have Bs:k≠23:=hk.2;have Am:((k:Int)==23)=false:=by rw[beq_eq_false_iff_ne];omega
 have t0:=hT ns 2 ⟨k0,false,a0,D0⟩ G (by first|omega|(simp only;omega)) (by first|omega|(simp at Cc |-;omega)) (by decide) hN hG;generalize e0:T ns 2 ⟨k0,false,a0,D0⟩=q at t0;obtain⟨u0,k1,b1,a1,D1⟩:=q;obtain⟨c0,m0,N1⟩:=t0;simp only at c0 m0 N1;have z0:=Bz u0;have t1:=hT ns 2 ⟨k1,false,a1,D1⟩ G (by first|omega|(simp only;omega)) (by first|omega|(simp at Cc |-;omega)) (by decide) N1 hG;generalize e1:T ns 2 ⟨k1,false,a1,D1⟩=q at t1;obtain⟨u1,k2,b2,a2,D2⟩:=q;obtain⟨c1,m1,N2⟩:=t1;simp only at c1 m1 N2;have z1:=Bz u1;refine⟨?_,?_,?_⟩;rotate_left
 ·cases b1;rotate_left
  ·have eR:Aj c T ns k [116,116] ⟨k0,false,a0,D0⟩=(.mk k (0:Nat) (0:Nat) 0 [u0],(An c ⟨k1,true,a1,D1⟩ 2).2):=by simp only[Aj,Ax,Ay,Az,Ba,Ar,q_km,q_kn,e0];rfl
   rw[eR];refine q_ko ?_ (Cp 2);first|omega|(simp only;omega)
  have eR:Aj c T ns k [116,116] ⟨k0,false,a0,D0⟩=(.mk k (0:Nat) (0:Nat) 0 [u0,u1],(An c ⟨k2,b2,a2,D2⟩ 2).2):=by simp only[Aj,Ax,Ay,Az,Ba,Ar,q_km,q_kn,e0,e1];rfl
  rw[eR];refine q_ko ?_ (Cp 2);first|omega|(simp only;omega)
 ·cases b1;rotate_left
  ·have eR:Aj c T ns k [116,116] ⟨k0,false,a0,D0⟩=(.mk k (0:Nat) (0:Nat) 0 [u0],(An c ⟨k1,true,a1,D1⟩ 2).2):=by simp only[Aj,Ax,Ay,Az,Ba,Ar,q_km,q_kn,e0];rfl
   rw[eR];rw[Bm];exact N1
  have eR:Aj c T ns k [116,116] ⟨k0,false,a0,D0⟩=(.mk k (0:Nat) (0:Nat) 0 [u0,u1],(An c ⟨k2,b2,a2,D2⟩ 2).2):=by simp only[Aj,Ax,Ay,Az,Ba,Ar,q_km,q_kn,e0,e1];rfl
  rw[eR];rw[Bm];exact N2
 refine Hg (r:=.agg true (tvn (Aj c T ns k [116,116] ⟨k0,false,a0,D0⟩).1)) ?_ (Ip _);have Ly:2<=140737488355328:=by decide
 refine Cl mixed Tryz.func190 tr190 ?_;unfold rdS at c0 c1 |-;simp only[go_sem,seval,Fm];refine Ff 3 (Bk ?_);simp only[go_sem,seval,v116,wq7,wq8,Am,z0,z1];refine Ai c0 ?_;simp only[go_sem,seval,v116,wq7,wq8,Am,z0,z1];cases b1;rotate_left
 ·refine Bk ?_;have ce:=Cj (nm:=nmG ns) (s:=⟨k1,true,a1,D1⟩) (G:=G++D1) hc 2;have eR:Aj c T ns k [116,116] ⟨k0,false,a0,D0⟩=(.mk k (0:Nat) (0:Nat) 0 [u0],(An c ⟨k1,true,a1,D1⟩ 2).2):=by simp only[Aj,Ax,Ay,Az,Ba,Ar,q_km,q_kn,e0];rfl
  rw[eR,Bm,Ds];unfold rdS at ce;simp only[go_sem,seval,v116,wq7,wq8,Am,z0,z1];refine Ai ce ?_;simp only[go_sem,seval,v116,wq7,wq8,Am,z0,z1,q_h,q_i]
 refine Bk ?_;simp only[go_sem,seval,v116,wq7,wq8,Am,z0,z1];refine Ai c1 ?_;simp only[go_sem,seval,v116,wq7,wq8,Am,z0,z1];refine Bk ?_;have ce:=Cj (nm:=nmG ns) (s:=⟨k2,b2,a2,D2⟩) (G:=G++D2) hc 2;have eR:Aj c T ns k [116,116] ⟨k0,false,a0,D0⟩=(.mk k (0:Nat) (0:Nat) 0 [u0,u1],(An c ⟨k2,b2,a2,D2⟩ 2).2):=by simp only[Aj,Ax,Ay,Az,Ba,Ar,q_km,q_kn,e0,e1];rfl
 rw[eR,Bm,Ds];unfold rdS at ce;simp only[go_sem,seval,v116,wq7,wq8,Am,z0,z1];refine Ai ce ?_;simp only[go_sem,seval,v116,wq7,wq8,Am,z0,z1,q_h,q_i]
def lg_t(hc:Fz c)(hT:TCG c T f)(Cc:ns.length+3*f+2<100000000000)(hk:12<k/\k≠23)(hb:s.bad=false)(hN:NGr s.D)(hG:NGr G)(hs:c.L.length<s.k+f):LCG c T ns k [116] s G:=by
 obtain⟨k0,b0,a0,D0⟩:=s;simp only at hs hN hb;subst hb;have Ar:ofR k=2:=by unfold ofR;rw[if_neg (by omega)]
 have Fm:¬(k:Int)<=12:=by omega
 have Bs:k≠23:=hk.2;have Am:((k:Int)==23)=false:=by rw[beq_eq_false_iff_ne];omega
 have t0:=hT ns 2 ⟨k0,false,a0,D0⟩ G (by first|omega|(simp only;omega)) (by first|omega|(simp at Cc |-;omega)) (by decide) hN hG;generalize e0:T ns 2 ⟨k0,false,a0,D0⟩=q at t0;obtain⟨u0,k1,b1,a1,D1⟩:=q;obtain⟨c0,m0,N1⟩:=t0;simp only at c0 m0 N1;have z0:=Bz u0;refine⟨?_,?_,?_⟩;rotate_left
 ·have eR:Aj c T ns k [116] ⟨k0,false,a0,D0⟩=(.mk k (0:Nat) (0:Nat) 0 [u0],(An c ⟨k1,b1,a1,D1⟩ 2).2):=by simp only[Aj,Ax,Ay,Az,Ba,Ar,q_km,q_kn,e0];rfl
  rw[eR];refine q_ko ?_ (Cp 2);first|omega|(simp only;omega)
 ·have eR:Aj c T ns k [116] ⟨k0,false,a0,D0⟩=(.mk k (0:Nat) (0:Nat) 0 [u0],(An c ⟨k1,b1,a1,D1⟩ 2).2):=by simp only[Aj,Ax,Ay,Az,Ba,Ar,q_km,q_kn,e0];rfl
  rw[eR];rw[Bm];exact N1
 refine Hg (r:=.agg true (tvn (Aj c T ns k [116] ⟨k0,false,a0,D0⟩).1)) ?_ (Ip _);have Ly:1<=140737488355328:=by decide
 refine Cl mixed Tryz.func190 tr190 ?_;unfold rdS at c0 |-;simp only[go_sem,seval,Fm];refine Ff 2 (Bk ?_);simp only[go_sem,seval,v116,wq7,wq8,Am,z0];refine Ai c0 ?_;simp only[go_sem,seval,v116,wq7,wq8,Am,z0];refine Bk ?_;have ce:=Cj (nm:=nmG ns) (s:=⟨k1,b1,a1,D1⟩) (G:=G++D1) hc 2;have eR:Aj c T ns k [116] ⟨k0,false,a0,D0⟩=(.mk k (0:Nat) (0:Nat) 0 [u0],(An c ⟨k1,b1,a1,D1⟩ 2).2):=by simp only[Aj,Ax,Ay,Az,Ba,Ar,q_km,q_kn,e0];rfl
 rw[eR,Bm,Ds];unfold rdS at ce;simp only[go_sem,seval,v116,wq7,wq8,Am,z0];refine Ai ce ?_;simp only[go_sem,seval,v116,wq7,wq8,Am,z0,q_h,q_i]
def Ayk(hc:Fz c)(hT:TCG c T f)(Cc:ns.length+3*f+2<100000000000)(hk:12<k/\k≠23)(hb:s.bad=false)(hN:NGr s.D)(hG:NGr G)(hs:c.L.length<s.k+f):LCG c T ns k [116,116,116] s G:=by
 obtain⟨k0,b0,a0,D0⟩:=s;simp only at hs hN hb;subst hb;have Ar:ofR k=2:=by unfold ofR;rw[if_neg (by omega)]
 have Fm:¬(k:Int)<=12:=by omega
 have Bs:k≠23:=hk.2;have Am:((k:Int)==23)=false:=by rw[beq_eq_false_iff_ne];omega
 have t0:=hT ns 2 ⟨k0,false,a0,D0⟩ G (by first|omega|(simp only;omega)) (by first|omega|(simp at Cc |-;omega)) (by decide) hN hG;generalize e0:T ns 2 ⟨k0,false,a0,D0⟩=q at t0;obtain⟨u0,k1,b1,a1,D1⟩:=q;obtain⟨c0,m0,N1⟩:=t0;simp only at c0 m0 N1;have z0:=Bz u0;have t1:=hT ns 2 ⟨k1,false,a1,D1⟩ G (by first|omega|(simp only;omega)) (by first|omega|(simp at Cc |-;omega)) (by decide) N1 hG;generalize e1:T ns 2 ⟨k1,false,a1,D1⟩=q at t1;obtain⟨u1,k2,b2,a2,D2⟩:=q;obtain⟨c1,m1,N2⟩:=t1;simp only at c1 m1 N2;have z1:=Bz u1;have t2:=hT ns 2 ⟨k2,false,a2,D2⟩ G (by first|omega|(simp only;omega)) (by first|omega|(simp at Cc |-;omega)) (by decide) N2 hG;generalize e2:T ns 2 ⟨k2,false,a2,D2⟩=q at t2;obtain⟨u2,k3,b3,a3,D3⟩:=q;obtain⟨c2,m2,N3⟩:=t2;simp only at c2 m2 N3;have z2:=Bz u2;refine⟨?_,?_,?_⟩;rotate_left
 ·cases b1;rotate_left
  ·have eR:Aj c T ns k [116,116,116] ⟨k0,false,a0,D0⟩=(.mk k (0:Nat) (0:Nat) 0 [u0],(An c ⟨k1,true,a1,D1⟩ 2).2):=by simp only[Aj,Ax,Ay,Az,Ba,Ar,q_km,q_kn,e0];rfl
   rw[eR];refine q_ko ?_ (Cp 2);first|omega|(simp only;omega)
  cases b2;rotate_left
  ·have eR:Aj c T ns k [116,116,116] ⟨k0,false,a0,D0⟩=(.mk k (0:Nat) (0:Nat) 0 [u0,u1],(An c ⟨k2,true,a2,D2⟩ 2).2):=by simp only[Aj,Ax,Ay,Az,Ba,Ar,q_km,q_kn,e0,e1];rfl
   rw[eR];refine q_ko ?_ (Cp 2);first|omega|(simp only;omega)
  have eR:Aj c T ns k [116,116,116] ⟨k0,false,a0,D0⟩=(.mk k (0:Nat) (0:Nat) 0 [u0,u1,u2],(An c ⟨k3,b3,a3,D3⟩ 2).2):=by simp only[Aj,Ax,Ay,Az,Ba,Ar,q_km,q_kn,e0,e1,e2];rfl
  rw[eR];refine q_ko ?_ (Cp 2);first|omega|(simp only;omega)
 ·cases b1;rotate_left
  ·have eR:Aj c T ns k [116,116,116] ⟨k0,false,a0,D0⟩=(.mk k (0:Nat) (0:Nat) 0 [u0],(An c ⟨k1,true,a1,D1⟩ 2).2):=by simp only[Aj,Ax,Ay,Az,Ba,Ar,q_km,q_kn,e0];rfl
   rw[eR];rw[Bm];exact N1
  cases b2;rotate_left
  ·have eR:Aj c T ns k [116,116,116] ⟨k0,false,a0,D0⟩=(.mk k (0:Nat) (0:Nat) 0 [u0,u1],(An c ⟨k2,true,a2,D2⟩ 2).2):=by simp only[Aj,Ax,Ay,Az,Ba,Ar,q_km,q_kn,e0,e1];rfl
   rw[eR];rw[Bm];exact N2
  have eR:Aj c T ns k [116,116,116] ⟨k0,false,a0,D0⟩=(.mk k (0:Nat) (0:Nat) 0 [u0,u1,u2],(An c ⟨k3,b3,a3,D3⟩ 2).2):=by simp only[Aj,Ax,Ay,Az,Ba,Ar,q_km,q_kn,e0,e1,e2];rfl
  rw[eR];rw[Bm];exact N3
 refine Hg (r:=.agg true (tvn (Aj c T ns k [116,116,116] ⟨k0,false,a0,D0⟩).1)) ?_ (Ip _);have Ly:3<=140737488355328:=by decide
 refine Cl mixed Tryz.func190 tr190 ?_;unfold rdS at c0 c1 c2 |-;simp only[go_sem,seval,Fm];refine Ff 4 (Bk ?_);simp only[go_sem,seval,v116,wq7,wq8,Am,z0,z1,z2];refine Ai c0 ?_;simp only[go_sem,seval,v116,wq7,wq8,Am,z0,z1,z2];cases b1;rotate_left
 ·refine Bk ?_;have ce:=Cj (nm:=nmG ns) (s:=⟨k1,true,a1,D1⟩) (G:=G++D1) hc 2;have eR:Aj c T ns k [116,116,116] ⟨k0,false,a0,D0⟩=(.mk k (0:Nat) (0:Nat) 0 [u0],(An c ⟨k1,true,a1,D1⟩ 2).2):=by simp only[Aj,Ax,Ay,Az,Ba,Ar,q_km,q_kn,e0];rfl
  rw[eR,Bm,Ds];unfold rdS at ce;simp only[go_sem,seval,v116,wq7,wq8,Am,z0,z1,z2];refine Ai ce ?_;simp only[go_sem,seval,v116,wq7,wq8,Am,z0,z1,z2,q_h,q_i]
 refine Bk ?_;simp only[go_sem,seval,v116,wq7,wq8,Am,z0,z1,z2];refine Ai c1 ?_;simp only[go_sem,seval,v116,wq7,wq8,Am,z0,z1,z2];cases b2;rotate_left
 ·refine Bk ?_;have ce:=Cj (nm:=nmG ns) (s:=⟨k2,true,a2,D2⟩) (G:=G++D2) hc 2;have eR:Aj c T ns k [116,116,116] ⟨k0,false,a0,D0⟩=(.mk k (0:Nat) (0:Nat) 0 [u0,u1],(An c ⟨k2,true,a2,D2⟩ 2).2):=by simp only[Aj,Ax,Ay,Az,Ba,Ar,q_km,q_kn,e0,e1];rfl
  rw[eR,Bm,Ds];unfold rdS at ce;simp only[go_sem,seval,v116,wq7,wq8,Am,z0,z1,z2];refine Ai ce ?_;simp only[go_sem,seval,v116,wq7,wq8,Am,z0,z1,z2,q_h,q_i]
 refine Bk ?_;simp only[go_sem,seval,v116,wq7,wq8,Am,z0,z1,z2];refine Ai c2 ?_;simp only[go_sem,seval,v116,wq7,wq8,Am,z0,z1,z2];refine Bk ?_;have ce:=Cj (nm:=nmG ns) (s:=⟨k3,b3,a3,D3⟩) (G:=G++D3) hc 2;have eR:Aj c T ns k [116,116,116] ⟨k0,false,a0,D0⟩=(.mk k (0:Nat) (0:Nat) 0 [u0,u1,u2],(An c ⟨k3,b3,a3,D3⟩ 2).2):=by simp only[Aj,Ax,Ay,Az,Ba,Ar,q_km,q_kn,e0,e1,e2];rfl
 rw[eR,Bm,Ds];unfold rdS at ce;simp only[go_sem,seval,v116,wq7,wq8,Am,z0,z1,z2];refine Ai ce ?_;simp only[go_sem,seval,v116,wq7,wq8,Am,z0,z1,z2,q_h,q_i]
def Ayh(hc:Fz c)(hT:TCG c T f)(Cc:ns.length+3*f+2<100000000000)(hk:k<=12)(hb:s.bad=false)(hN:NGr s.D)(hG:NGr G)(hs:c.L.length<s.k+f):LCG c T ns k [76,116,116,116] s G:=by
 obtain⟨k0,b0,a0,D0⟩:=s;simp only at hs hN hb;subst hb;have Ar:ofR k=1:=by unfold ofR;rw[if_pos hk]
 have Fm:(k:Int)<=12:=by omega
 have Bs:k≠23:=by omega
 have Am:((k:Int)==23)=false:=by rw[beq_eq_false_iff_ne];omega
 have c0:=Li (nm:=nmG ns) (G:=G++D0) hc (c.L.length+1) ⟨k0,false,a0,D0⟩ (q_ja _) (by simp only;omega) (by omega);have d0:=(Ll (c:=c) (c.L.length+1) ⟨k0,false,a0,D0⟩).symm;have m0:=Kw (c:=c) (c.L.length+1) ⟨k0,false,a0,D0⟩;generalize e0:Cy c (c.L.length+1) ⟨k0,false,a0,D0⟩=q at c0 d0 m0;obtain⟨u0,k1,b1,a1,E1⟩:=q;simp only at c0 d0 m0;subst d0;have t1:=hT ns 1 ⟨k1,false,a1,D0⟩ G (by first|omega|(simp only;omega)) (by first|omega|(simp at Cc |-;omega)) (by decide) hN hG;generalize e1:T ns 1 ⟨k1,false,a1,D0⟩=q at t1;obtain⟨u1,k2,b2,a2,D2⟩:=q;obtain⟨c1,m1,N2⟩:=t1;simp only at c1 m1 N2;have z1:=Bz u1;have t2:=hT ns 1 ⟨k2,false,a2,D2⟩ G (by first|omega|(simp only;omega)) (by first|omega|(simp at Cc |-;omega)) (by decide) N2 hG;generalize e2:T ns 1 ⟨k2,false,a2,D2⟩=q at t2;obtain⟨u2,k3,b3,a3,D3⟩:=q;obtain⟨c2,m2,N3⟩:=t2;simp only at c2 m2 N3;have z2:=Bz u2;have t3:=hT ns 1 ⟨k3,false,a3,D3⟩ G (by first|omega|(simp only;omega)) (by first|omega|(simp at Cc |-;omega)) (by decide) N3 hG;generalize e3:T ns 1 ⟨k3,false,a3,D3⟩=q at t3;obtain⟨u3,k4,b4,a4,D4⟩:=q;obtain⟨c3,m3,N4⟩:=t3;simp only at c3 m3 N4;have z3:=Bz u3;refine⟨?_,?_,?_⟩;rotate_left
 ·cases b1;rotate_left
  ·have eR:Aj c T ns k [76,116,116,116] ⟨k0,false,a0,D0⟩=(.mk k (u0:Nat) (0:Nat) 0 [],(An c ⟨k1,true,a1,D0⟩ 2).2):=by simp only[Aj,Ax,Ay,Az,Bq,Ba,Ar,q_km,q_kn,e0];rfl
   rw[eR];refine q_ko ?_ (Cp 2);first|omega|(simp only;omega)
  cases b2;rotate_left
  ·have eR:Aj c T ns k [76,116,116,116] ⟨k0,false,a0,D0⟩=(.mk k (u0:Nat) (0:Nat) 0 [u1],(An c ⟨k2,true,a2,D2⟩ 2).2):=by simp only[Aj,Ax,Ay,Az,Bq,Ba,Ar,q_km,q_kn,e0,e1];rfl
   rw[eR];refine q_ko ?_ (Cp 2);first|omega|(simp only;omega)
  cases b3;rotate_left
  ·have eR:Aj c T ns k [76,116,116,116] ⟨k0,false,a0,D0⟩=(.mk k (u0:Nat) (0:Nat) 0 [u1,u2],(An c ⟨k3,true,a3,D3⟩ 2).2):=by simp only[Aj,Ax,Ay,Az,Bq,Ba,Ar,q_km,q_kn,e0,e1,e2];rfl
   rw[eR];refine q_ko ?_ (Cp 2);first|omega|(simp only;omega)
  have eR:Aj c T ns k [76,116,116,116] ⟨k0,false,a0,D0⟩=(.mk k (u0:Nat) (0:Nat) 0 [u1,u2,u3],(An c ⟨k4,b4,a4,D4⟩ 2).2):=by simp only[Aj,Ax,Ay,Az,Bq,Ba,Ar,q_km,q_kn,e0,e1,e2,e3];rfl
  rw[eR];refine q_ko ?_ (Cp 2);first|omega|(simp only;omega)
 ·cases b1;rotate_left
  ·have eR:Aj c T ns k [76,116,116,116] ⟨k0,false,a0,D0⟩=(.mk k (u0:Nat) (0:Nat) 0 [],(An c ⟨k1,true,a1,D0⟩ 2).2):=by simp only[Aj,Ax,Ay,Az,Bq,Ba,Ar,q_km,q_kn,e0];rfl
   rw[eR];rw[Bm];exact hN
  cases b2;rotate_left
  ·have eR:Aj c T ns k [76,116,116,116] ⟨k0,false,a0,D0⟩=(.mk k (u0:Nat) (0:Nat) 0 [u1],(An c ⟨k2,true,a2,D2⟩ 2).2):=by simp only[Aj,Ax,Ay,Az,Bq,Ba,Ar,q_km,q_kn,e0,e1];rfl
   rw[eR];rw[Bm];exact N2
  cases b3;rotate_left
  ·have eR:Aj c T ns k [76,116,116,116] ⟨k0,false,a0,D0⟩=(.mk k (u0:Nat) (0:Nat) 0 [u1,u2],(An c ⟨k3,true,a3,D3⟩ 2).2):=by simp only[Aj,Ax,Ay,Az,Bq,Ba,Ar,q_km,q_kn,e0,e1,e2];rfl
   rw[eR];rw[Bm];exact N3
  have eR:Aj c T ns k [76,116,116,116] ⟨k0,false,a0,D0⟩=(.mk k (u0:Nat) (0:Nat) 0 [u1,u2,u3],(An c ⟨k4,b4,a4,D4⟩ 2).2):=by simp only[Aj,Ax,Ay,Az,Bq,Ba,Ar,q_km,q_kn,e0,e1,e2,e3];rfl
  rw[eR];rw[Bm];exact N4
 refine Hg (r:=.agg true (tvn (Aj c T ns k [76,116,116,116] ⟨k0,false,a0,D0⟩).1)) ?_ (Ip _);have Ly:4<=140737488355328:=by decide
 refine Cl mixed Tryz.func190 tr190 ?_;unfold rdS at c0 c1 c2 c3 |-;simp only[go_sem,seval,Fm];refine Ff 5 (Bk ?_);simp only[go_sem,seval,v76,v116,wq7,wq8,Am,z1,z2,z3];refine Ai c0 ?_;simp only[go_sem,seval,v76,v116,wq7,wq8,Am,z1,z2,z3];cases b1;rotate_left
 ·refine Bk ?_;have ce:=Cj (nm:=nmG ns) (s:=⟨k1,true,a1,D0⟩) (G:=G++D0) hc 2;have eR:Aj c T ns k [76,116,116,116] ⟨k0,false,a0,D0⟩=(.mk k (u0:Nat) (0:Nat) 0 [],(An c ⟨k1,true,a1,D0⟩ 2).2):=by simp only[Aj,Ax,Ay,Az,Bq,Ba,Ar,q_km,q_kn,e0];rfl
  rw[eR,Bm,Hv];unfold rdS at ce;simp only[go_sem,seval,v76,v116,wq7,wq8,Am,z1,z2,z3];refine Ai ce ?_;simp only[go_sem,seval,v76,v116,wq7,wq8,Am,z1,z2,z3,q_h,q_i]
 refine Bk ?_;simp only[go_sem,seval,v76,v116,wq7,wq8,Am,z1,z2,z3];refine Ai c1 ?_;simp only[go_sem,seval,v76,v116,wq7,wq8,Am,z1,z2,z3];cases b2;rotate_left
 ·refine Bk ?_;have ce:=Cj (nm:=nmG ns) (s:=⟨k2,true,a2,D2⟩) (G:=G++D2) hc 2;have eR:Aj c T ns k [76,116,116,116] ⟨k0,false,a0,D0⟩=(.mk k (u0:Nat) (0:Nat) 0 [u1],(An c ⟨k2,true,a2,D2⟩ 2).2):=by simp only[Aj,Ax,Ay,Az,Bq,Ba,Ar,q_km,q_kn,e0,e1];rfl
  rw[eR,Bm,Ds];unfold rdS at ce;simp only[go_sem,seval,v76,v116,wq7,wq8,Am,z1,z2,z3];refine Ai ce ?_;simp only[go_sem,seval,v76,v116,wq7,wq8,Am,z1,z2,z3,q_h,q_i]
 refine Bk ?_;simp only[go_sem,seval,v76,v116,wq7,wq8,Am,z1,z2,z3];refine Ai c2 ?_;simp only[go_sem,seval,v76,v116,wq7,wq8,Am,z1,z2,z3];cases b3;rotate_left
 ·refine Bk ?_;have ce:=Cj (nm:=nmG ns) (s:=⟨k3,true,a3,D3⟩) (G:=G++D3) hc 2;have eR:Aj c T ns k [76,116,116,116] ⟨k0,false,a0,D0⟩=(.mk k (u0:Nat) (0:Nat) 0 [u1,u2],(An c ⟨k3,true,a3,D3⟩ 2).2):=by simp only[Aj,Ax,Ay,Az,Bq,Ba,Ar,q_km,q_kn,e0,e1,e2];rfl
  rw[eR,Bm,Ds];unfold rdS at ce;simp only[go_sem,seval,v76,v116,wq7,wq8,Am,z1,z2,z3];refine Ai ce ?_;simp only[go_sem,seval,v76,v116,wq7,wq8,Am,z1,z2,z3,q_h,q_i]
 refine Bk ?_;simp only[go_sem,seval,v76,v116,wq7,wq8,Am,z1,z2,z3];refine Ai c3 ?_;simp only[go_sem,seval,v76,v116,wq7,wq8,Am,z1,z2,z3];refine Bk ?_;have ce:=Cj (nm:=nmG ns) (s:=⟨k4,b4,a4,D4⟩) (G:=G++D4) hc 2;have eR:Aj c T ns k [76,116,116,116] ⟨k0,false,a0,D0⟩=(.mk k (u0:Nat) (0:Nat) 0 [u1,u2,u3],(An c ⟨k4,b4,a4,D4⟩ 2).2):=by simp only[Aj,Ax,Ay,Az,Bq,Ba,Ar,q_km,q_kn,e0,e1,e2,e3];rfl
 rw[eR,Bm,Ds];unfold rdS at ce;simp only[go_sem,seval,v76,v116,wq7,wq8,Am,z1,z2,z3];refine Ai ce ?_;simp only[go_sem,seval,v76,v116,wq7,wq8,Am,z1,z2,z3,q_h,q_i]
def Ayf(hc:Fz c)(hT:TCG c T f)(Cc:ns.length+3*f+2<100000000000)(hk:k<=12)(hb:s.bad=false)(hN:NGr s.D)(hG:NGr G)(hs:c.L.length<s.k+f):LCG c T ns k [76,116,116] s G:=by
 obtain⟨k0,b0,a0,D0⟩:=s;simp only at hs hN hb;subst hb;have Ar:ofR k=1:=by unfold ofR;rw[if_pos hk]
 have Fm:(k:Int)<=12:=by omega
 have Bs:k≠23:=by omega
 have Am:((k:Int)==23)=false:=by rw[beq_eq_false_iff_ne];omega
 have c0:=Li (nm:=nmG ns) (G:=G++D0) hc (c.L.length+1) ⟨k0,false,a0,D0⟩ (q_ja _) (by simp only;omega) (by omega);have d0:=(Ll (c:=c) (c.L.length+1) ⟨k0,false,a0,D0⟩).symm;have m0:=Kw (c:=c) (c.L.length+1) ⟨k0,false,a0,D0⟩;generalize e0:Cy c (c.L.length+1) ⟨k0,false,a0,D0⟩=q at c0 d0 m0;obtain⟨u0,k1,b1,a1,E1⟩:=q;simp only at c0 d0 m0;subst d0;have t1:=hT ns 1 ⟨k1,false,a1,D0⟩ G (by first|omega|(simp only;omega)) (by first|omega|(simp at Cc |-;omega)) (by decide) hN hG;generalize e1:T ns 1 ⟨k1,false,a1,D0⟩=q at t1;obtain⟨u1,k2,b2,a2,D2⟩:=q;obtain⟨c1,m1,N2⟩:=t1;simp only at c1 m1 N2;have z1:=Bz u1;have t2:=hT ns 1 ⟨k2,false,a2,D2⟩ G (by first|omega|(simp only;omega)) (by first|omega|(simp at Cc |-;omega)) (by decide) N2 hG;generalize e2:T ns 1 ⟨k2,false,a2,D2⟩=q at t2;obtain⟨u2,k3,b3,a3,D3⟩:=q;obtain⟨c2,m2,N3⟩:=t2;simp only at c2 m2 N3;have z2:=Bz u2;refine⟨?_,?_,?_⟩;rotate_left
 ·cases b1;rotate_left
  ·have eR:Aj c T ns k [76,116,116] ⟨k0,false,a0,D0⟩=(.mk k (u0:Nat) (0:Nat) 0 [],(An c ⟨k1,true,a1,D0⟩ 2).2):=by simp only[Aj,Ax,Ay,Az,Bq,Ba,Ar,q_km,q_kn,e0];rfl
   rw[eR];refine q_ko ?_ (Cp 2);first|omega|(simp only;omega)
  cases b2;rotate_left
  ·have eR:Aj c T ns k [76,116,116] ⟨k0,false,a0,D0⟩=(.mk k (u0:Nat) (0:Nat) 0 [u1],(An c ⟨k2,true,a2,D2⟩ 2).2):=by simp only[Aj,Ax,Ay,Az,Bq,Ba,Ar,q_km,q_kn,e0,e1];rfl
   rw[eR];refine q_ko ?_ (Cp 2);first|omega|(simp only;omega)
  have eR:Aj c T ns k [76,116,116] ⟨k0,false,a0,D0⟩=(.mk k (u0:Nat) (0:Nat) 0 [u1,u2],(An c ⟨k3,b3,a3,D3⟩ 2).2):=by simp only[Aj,Ax,Ay,Az,Bq,Ba,Ar,q_km,q_kn,e0,e1,e2];rfl
  rw[eR];refine q_ko ?_ (Cp 2);first|omega|(simp only;omega)
 ·cases b1;rotate_left
  ·have eR:Aj c T ns k [76,116,116] ⟨k0,false,a0,D0⟩=(.mk k (u0:Nat) (0:Nat) 0 [],(An c ⟨k1,true,a1,D0⟩ 2).2):=by simp only[Aj,Ax,Ay,Az,Bq,Ba,Ar,q_km,q_kn,e0];rfl
   rw[eR];rw[Bm];exact hN
  cases b2;rotate_left
  ·have eR:Aj c T ns k [76,116,116] ⟨k0,false,a0,D0⟩=(.mk k (u0:Nat) (0:Nat) 0 [u1],(An c ⟨k2,true,a2,D2⟩ 2).2):=by simp only[Aj,Ax,Ay,Az,Bq,Ba,Ar,q_km,q_kn,e0,e1];rfl
   rw[eR];rw[Bm];exact N2
  have eR:Aj c T ns k [76,116,116] ⟨k0,false,a0,D0⟩=(.mk k (u0:Nat) (0:Nat) 0 [u1,u2],(An c ⟨k3,b3,a3,D3⟩ 2).2):=by simp only[Aj,Ax,Ay,Az,Bq,Ba,Ar,q_km,q_kn,e0,e1,e2];rfl
  rw[eR];rw[Bm];exact N3
 refine Hg (r:=.agg true (tvn (Aj c T ns k [76,116,116] ⟨k0,false,a0,D0⟩).1)) ?_ (Ip _);have Ly:3<=140737488355328:=by decide
 refine Cl mixed Tryz.func190 tr190 ?_;unfold rdS at c0 c1 c2 |-;simp only[go_sem,seval,Fm];refine Ff 4 (Bk ?_);simp only[go_sem,seval,v76,v116,wq7,wq8,Am,z1,z2];refine Ai c0 ?_;simp only[go_sem,seval,v76,v116,wq7,wq8,Am,z1,z2];cases b1;rotate_left
 ·refine Bk ?_;have ce:=Cj (nm:=nmG ns) (s:=⟨k1,true,a1,D0⟩) (G:=G++D0) hc 2;have eR:Aj c T ns k [76,116,116] ⟨k0,false,a0,D0⟩=(.mk k (u0:Nat) (0:Nat) 0 [],(An c ⟨k1,true,a1,D0⟩ 2).2):=by simp only[Aj,Ax,Ay,Az,Bq,Ba,Ar,q_km,q_kn,e0];rfl
  rw[eR,Bm,Hv];unfold rdS at ce;simp only[go_sem,seval,v76,v116,wq7,wq8,Am,z1,z2];refine Ai ce ?_;simp only[go_sem,seval,v76,v116,wq7,wq8,Am,z1,z2,q_h,q_i]
 refine Bk ?_;simp only[go_sem,seval,v76,v116,wq7,wq8,Am,z1,z2];refine Ai c1 ?_;simp only[go_sem,seval,v76,v116,wq7,wq8,Am,z1,z2];cases b2;rotate_left
 ·refine Bk ?_;have ce:=Cj (nm:=nmG ns) (s:=⟨k2,true,a2,D2⟩) (G:=G++D2) hc 2;have eR:Aj c T ns k [76,116,116] ⟨k0,false,a0,D0⟩=(.mk k (u0:Nat) (0:Nat) 0 [u1],(An c ⟨k2,true,a2,D2⟩ 2).2):=by simp only[Aj,Ax,Ay,Az,Bq,Ba,Ar,q_km,q_kn,e0,e1];rfl
  rw[eR,Bm,Ds];unfold rdS at ce;simp only[go_sem,seval,v76,v116,wq7,wq8,Am,z1,z2];refine Ai ce ?_;simp only[go_sem,seval,v76,v116,wq7,wq8,Am,z1,z2,q_h,q_i]
 refine Bk ?_;simp only[go_sem,seval,v76,v116,wq7,wq8,Am,z1,z2];refine Ai c2 ?_;simp only[go_sem,seval,v76,v116,wq7,wq8,Am,z1,z2];refine Bk ?_;have ce:=Cj (nm:=nmG ns) (s:=⟨k3,b3,a3,D3⟩) (G:=G++D3) hc 2;have eR:Aj c T ns k [76,116,116] ⟨k0,false,a0,D0⟩=(.mk k (u0:Nat) (0:Nat) 0 [u1,u2],(An c ⟨k3,b3,a3,D3⟩ 2).2):=by simp only[Aj,Ax,Ay,Az,Bq,Ba,Ar,q_km,q_kn,e0,e1,e2];rfl
 rw[eR,Bm,Ds];unfold rdS at ce;simp only[go_sem,seval,v76,v116,wq7,wq8,Am,z1,z2];refine Ai ce ?_;simp only[go_sem,seval,v76,v116,wq7,wq8,Am,z1,z2,q_h,q_i]
def Ayg(hc:Fz c)(hT:TCG c T f)(Cc:ns.length+3*f+2<100000000000)(hk:k<=12)(hb:s.bad=false)(hN:NGr s.D)(hG:NGr G)(hs:c.L.length<s.k+f):LCG c T ns k [76,116,116,112,116] s G:=by
 obtain⟨k0,b0,a0,D0⟩:=s;simp only at hs hN hb;subst hb;have Ar:ofR k=1:=by unfold ofR;rw[if_pos hk]
 have Fm:(k:Int)<=12:=by omega
 have Bs:k≠23:=by omega
 have Am:((k:Int)==23)=false:=by rw[beq_eq_false_iff_ne];omega
 have c0:=Li (nm:=nmG ns) (G:=G++D0) hc (c.L.length+1) ⟨k0,false,a0,D0⟩ (q_ja _) (by simp only;omega) (by omega);have d0:=(Ll (c:=c) (c.L.length+1) ⟨k0,false,a0,D0⟩).symm;have m0:=Kw (c:=c) (c.L.length+1) ⟨k0,false,a0,D0⟩;generalize e0:Cy c (c.L.length+1) ⟨k0,false,a0,D0⟩=q at c0 d0 m0;obtain⟨u0,k1,b1,a1,E1⟩:=q;simp only at c0 d0 m0;subst d0;have t1:=hT ns 1 ⟨k1,false,a1,D0⟩ G (by first|omega|(simp only;omega)) (by first|omega|(simp at Cc |-;omega)) (by decide) hN hG;generalize e1:T ns 1 ⟨k1,false,a1,D0⟩=q at t1;obtain⟨u1,k2,b2,a2,D2⟩:=q;obtain⟨c1,m1,N2⟩:=t1;simp only at c1 m1 N2;have z1:=Bz u1;have t2:=hT ns 1 ⟨k2,false,a2,D2⟩ G (by first|omega|(simp only;omega)) (by first|omega|(simp at Cc |-;omega)) (by decide) N2 hG;generalize e2:T ns 1 ⟨k2,false,a2,D2⟩=q at t2;obtain⟨u2,k3,b3,a3,D3⟩:=q;obtain⟨c2,m2,N3⟩:=t2;simp only at c2 m2 N3;have z2:=Bz u2;have t3:=hT ns 2 ⟨k3,false,a3,D3⟩ G (by first|omega|(simp only;omega)) (by first|omega|(simp at Cc |-;omega)) (by decide) N3 hG;generalize e3:T ns 2 ⟨k3,false,a3,D3⟩=q at t3;obtain⟨u3,k4,b4,a4,D4⟩:=q;obtain⟨c3,m3,N4⟩:=t3;simp only at c3 m3 N4;have z3:=Bz u3;have t4:=hT ns 1 ⟨k4,false,a4,D4⟩ G (by first|omega|(simp only;omega)) (by first|omega|(simp at Cc |-;omega)) (by decide) N4 hG;generalize e4:T ns 1 ⟨k4,false,a4,D4⟩=q at t4;obtain⟨u4,k5,b5,a5,D5⟩:=q;obtain⟨c4,m4,N5⟩:=t4;simp only at c4 m4 N5;have z4:=Bz u4;refine⟨?_,?_,?_⟩;rotate_left
 ·cases b1;rotate_left
  ·have eR:Aj c T ns k [76,116,116,112,116] ⟨k0,false,a0,D0⟩=(.mk k (u0:Nat) (0:Nat) 0 [],(An c ⟨k1,true,a1,D0⟩ 2).2):=by simp only[Aj,Ax,Ay,Az,Bq,Kv,Ba,Ar,q_km,q_kn,e0];rfl
   rw[eR];refine q_ko ?_ (Cp 2);first|omega|(simp only;omega)
  cases b2;rotate_left
  ·have eR:Aj c T ns k [76,116,116,112,116] ⟨k0,false,a0,D0⟩=(.mk k (u0:Nat) (0:Nat) 0 [u1],(An c ⟨k2,true,a2,D2⟩ 2).2):=by simp only[Aj,Ax,Ay,Az,Bq,Kv,Ba,Ar,q_km,q_kn,e0,e1];rfl
   rw[eR];refine q_ko ?_ (Cp 2);first|omega|(simp only;omega)
  cases b3;rotate_left
  ·have eR:Aj c T ns k [76,116,116,112,116] ⟨k0,false,a0,D0⟩=(.mk k (u0:Nat) (0:Nat) 0 [u1,u2],(An c ⟨k3,true,a3,D3⟩ 2).2):=by simp only[Aj,Ax,Ay,Az,Bq,Kv,Ba,Ar,q_km,q_kn,e0,e1,e2];rfl
   rw[eR];refine q_ko ?_ (Cp 2);first|omega|(simp only;omega)
  cases b4;rotate_left
  ·have eR:Aj c T ns k [76,116,116,112,116] ⟨k0,false,a0,D0⟩=(.mk k (u0:Nat) (0:Nat) 0 [u1,u2,u3],(An c ⟨k4,true,a4,D4⟩ 2).2):=by simp only[Aj,Ax,Ay,Az,Bq,Kv,Ba,Ar,q_km,q_kn,e0,e1,e2,e3];rfl
   rw[eR];refine q_ko ?_ (Cp 2);first|omega|(simp only;omega)
  have eR:Aj c T ns k [76,116,116,112,116] ⟨k0,false,a0,D0⟩=(.mk k (u0:Nat) (0:Nat) 0 [u1,u2,u3,u4],(An c ⟨k5,b5,a5,D5⟩ 2).2):=by simp only[Aj,Ax,Ay,Az,Bq,Kv,Ba,Ar,q_km,q_kn,e0,e1,e2,e3,e4];rfl
  rw[eR];refine q_ko ?_ (Cp 2);first|omega|(simp only;omega)
 ·cases b1;rotate_left
  ·have eR:Aj c T ns k [76,116,116,112,116] ⟨k0,false,a0,D0⟩=(.mk k (u0:Nat) (0:Nat) 0 [],(An c ⟨k1,true,a1,D0⟩ 2).2):=by simp only[Aj,Ax,Ay,Az,Bq,Kv,Ba,Ar,q_km,q_kn,e0];rfl
   rw[eR];rw[Bm];exact hN
  cases b2;rotate_left
  ·have eR:Aj c T ns k [76,116,116,112,116] ⟨k0,false,a0,D0⟩=(.mk k (u0:Nat) (0:Nat) 0 [u1],(An c ⟨k2,true,a2,D2⟩ 2).2):=by simp only[Aj,Ax,Ay,Az,Bq,Kv,Ba,Ar,q_km,q_kn,e0,e1];rfl
   rw[eR];rw[Bm];exact N2
  cases b3;rotate_left
  ·have eR:Aj c T ns k [76,116,116,112,116] ⟨k0,false,a0,D0⟩=(.mk k (u0:Nat) (0:Nat) 0 [u1,u2],(An c ⟨k3,true,a3,D3⟩ 2).2):=by simp only[Aj,Ax,Ay,Az,Bq,Kv,Ba,Ar,q_km,q_kn,e0,e1,e2];rfl
   rw[eR];rw[Bm];exact N3
  cases b4;rotate_left
  ·have eR:Aj c T ns k [76,116,116,112,116] ⟨k0,false,a0,D0⟩=(.mk k (u0:Nat) (0:Nat) 0 [u1,u2,u3],(An c ⟨k4,true,a4,D4⟩ 2).2):=by simp only[Aj,Ax,Ay,Az,Bq,Kv,Ba,Ar,q_km,q_kn,e0,e1,e2,e3];rfl
   rw[eR];rw[Bm];exact N4
  have eR:Aj c T ns k [76,116,116,112,116] ⟨k0,false,a0,D0⟩=(.mk k (u0:Nat) (0:Nat) 0 [u1,u2,u3,u4],(An c ⟨k5,b5,a5,D5⟩ 2).2):=by simp only[Aj,Ax,Ay,Az,Bq,Kv,Ba,Ar,q_km,q_kn,e0,e1,e2,e3,e4];rfl
  rw[eR];rw[Bm];exact N5
 refine Hg (r:=.agg true (tvn (Aj c T ns k [76,116,116,112,116] ⟨k0,false,a0,D0⟩).1)) ?_ (Ip _);have Ly:5<=140737488355328:=by decide
 refine Cl mixed Tryz.func190 tr190 ?_;unfold rdS at c0 c1 c2 c3 c4 |-;simp only[go_sem,seval,Fm];refine Ff 6 (Bk ?_);simp only[go_sem,seval,v76,v112,v116,wq7,wq8,Am,z1,z2,z3,z4];refine Ai c0 ?_;simp only[go_sem,seval,v76,v112,v116,wq7,wq8,Am,z1,z2,z3,z4];cases b1;rotate_left
 ·refine Bk ?_;have ce:=Cj (nm:=nmG ns) (s:=⟨k1,true,a1,D0⟩) (G:=G++D0) hc 2;have eR:Aj c T ns k [76,116,116,112,116] ⟨k0,false,a0,D0⟩=(.mk k (u0:Nat) (0:Nat) 0 [],(An c ⟨k1,true,a1,D0⟩ 2).2):=by simp only[Aj,Ax,Ay,Az,Bq,Kv,Ba,Ar,q_km,q_kn,e0];rfl
  rw[eR,Bm,Hv];unfold rdS at ce;simp only[go_sem,seval,v76,v112,v116,wq7,wq8,Am,z1,z2,z3,z4];refine Ai ce ?_;simp only[go_sem,seval,v76,v112,v116,wq7,wq8,Am,z1,z2,z3,z4,q_h,q_i]
 refine Bk ?_;simp only[go_sem,seval,v76,v112,v116,wq7,wq8,Am,z1,z2,z3,z4];refine Ai c1 ?_;simp only[go_sem,seval,v76,v112,v116,wq7,wq8,Am,z1,z2,z3,z4];cases b2;rotate_left
 ·refine Bk ?_;have ce:=Cj (nm:=nmG ns) (s:=⟨k2,true,a2,D2⟩) (G:=G++D2) hc 2;have eR:Aj c T ns k [76,116,116,112,116] ⟨k0,false,a0,D0⟩=(.mk k (u0:Nat) (0:Nat) 0 [u1],(An c ⟨k2,true,a2,D2⟩ 2).2):=by simp only[Aj,Ax,Ay,Az,Bq,Kv,Ba,Ar,q_km,q_kn,e0,e1];rfl
  rw[eR,Bm,Ds];unfold rdS at ce;simp only[go_sem,seval,v76,v112,v116,wq7,wq8,Am,z1,z2,z3,z4];refine Ai ce ?_;simp only[go_sem,seval,v76,v112,v116,wq7,wq8,Am,z1,z2,z3,z4,q_h,q_i]
 refine Bk ?_;simp only[go_sem,seval,v76,v112,v116,wq7,wq8,Am,z1,z2,z3,z4];refine Ai c2 ?_;simp only[go_sem,seval,v76,v112,v116,wq7,wq8,Am,z1,z2,z3,z4];cases b3;rotate_left
 ·refine Bk ?_;have ce:=Cj (nm:=nmG ns) (s:=⟨k3,true,a3,D3⟩) (G:=G++D3) hc 2;have eR:Aj c T ns k [76,116,116,112,116] ⟨k0,false,a0,D0⟩=(.mk k (u0:Nat) (0:Nat) 0 [u1,u2],(An c ⟨k3,true,a3,D3⟩ 2).2):=by simp only[Aj,Ax,Ay,Az,Bq,Kv,Ba,Ar,q_km,q_kn,e0,e1,e2];rfl
  rw[eR,Bm,Ds];unfold rdS at ce;simp only[go_sem,seval,v76,v112,v116,wq7,wq8,Am,z1,z2,z3,z4];refine Ai ce ?_;simp only[go_sem,seval,v76,v112,v116,wq7,wq8,Am,z1,z2,z3,z4,q_h,q_i]
 refine Bk ?_;simp only[go_sem,seval,v76,v112,v116,wq7,wq8,Am,z1,z2,z3,z4];refine Ai c3 ?_;simp only[go_sem,seval,v76,v112,v116,wq7,wq8,Am,z1,z2,z3,z4];cases b4;rotate_left
 ·refine Bk ?_;have ce:=Cj (nm:=nmG ns) (s:=⟨k4,true,a4,D4⟩) (G:=G++D4) hc 2;have eR:Aj c T ns k [76,116,116,112,116] ⟨k0,false,a0,D0⟩=(.mk k (u0:Nat) (0:Nat) 0 [u1,u2,u3],(An c ⟨k4,true,a4,D4⟩ 2).2):=by simp only[Aj,Ax,Ay,Az,Bq,Kv,Ba,Ar,q_km,q_kn,e0,e1,e2,e3];rfl
  rw[eR,Bm,Ds];unfold rdS at ce;simp only[go_sem,seval,v76,v112,v116,wq7,wq8,Am,z1,z2,z3,z4];refine Ai ce ?_;simp only[go_sem,seval,v76,v112,v116,wq7,wq8,Am,z1,z2,z3,z4,q_h,q_i]
 refine Bk ?_;simp only[go_sem,seval,v76,v112,v116,wq7,wq8,Am,z1,z2,z3,z4];refine Ai c4 ?_;simp only[go_sem,seval,v76,v112,v116,wq7,wq8,Am,z1,z2,z3,z4];refine Bk ?_;have ce:=Cj (nm:=nmG ns) (s:=⟨k5,b5,a5,D5⟩) (G:=G++D5) hc 2;have eR:Aj c T ns k [76,116,116,112,116] ⟨k0,false,a0,D0⟩=(.mk k (u0:Nat) (0:Nat) 0 [u1,u2,u3,u4],(An c ⟨k5,b5,a5,D5⟩ 2).2):=by simp only[Aj,Ax,Ay,Az,Bq,Kv,Ba,Ar,q_km,q_kn,e0,e1,e2,e3,e4];rfl
 rw[eR,Bm,Ds];unfold rdS at ce;simp only[go_sem,seval,v76,v112,v116,wq7,wq8,Am,z1,z2,z3,z4];refine Ai ce ?_;simp only[go_sem,seval,v76,v112,v116,wq7,wq8,Am,z1,z2,z3,z4,q_h,q_i]
def Afa(hc:Fz c)(hT:TCG c T f)(Cc:ns.length+3*f+2<100000000000)(hk:12<k/\k≠23)(hb:s.bad=false)(hN:NGr s.D)(hG:NGr G)(hs:c.L.length<s.k+f):LCG c T ns k [120,116,98] s G:=by
 obtain⟨k0,b0,a0,D0⟩:=s;simp only at hs hN hb;subst hb;have Ar:ofR k=2:=by unfold ofR;rw[if_neg (by omega)]
 have Fm:¬(k:Int)<=12:=by omega
 have Bs:k≠23:=hk.2;have Am:((k:Int)==23)=false:=by rw[beq_eq_false_iff_ne];omega
 have c0:=Cj (nm:=nmG ns) (s:=⟨k0,false,a0,D0⟩) (G:=G++D0) hc 3;have d0:=(Bm (c:=c) (s:=⟨k0,false,a0,D0⟩) 3).symm;have m0:=Cp (c:=c) (s:=⟨k0,false,a0,D0⟩) 3;generalize e0:An c ⟨k0,false,a0,D0⟩ 3=q at c0 d0 m0;obtain⟨u0,k1,b1,a1,E1⟩:=q;simp only at c0 d0 m0;subst d0;have t1:=hT ns 2 ⟨k1,false,a1,D0⟩ G (by first|omega|(simp only;omega)) (by first|omega|(simp at Cc |-;omega)) (by decide) hN hG;generalize e1:T ns 2 ⟨k1,false,a1,D0⟩=q at t1;obtain⟨u1,k2,b2,a2,D2⟩:=q;obtain⟨c1,m1,N2⟩:=t1;simp only at c1 m1 N2;have z1:=Bz u1;have t2:=hT (u0::ns) 2 ⟨k2,false,a2,D2⟩ G (by first|omega|(simp only;omega)) (by first|omega|(simp at Cc |-;omega)) (by decide) N2 hG;generalize e2:T (u0::ns) 2 ⟨k2,false,a2,D2⟩=q at t2;obtain⟨u2,k3,b3,a3,D3⟩:=q;obtain⟨c2,m2,N3⟩:=t2;simp only at c2 m2 N3;have z2:=Bz u2;refine⟨?_,?_,?_⟩;rotate_left
 ·cases b1;rotate_left
  ·have eR:Aj c T ns k [120,116,98] ⟨k0,false,a0,D0⟩=(.mk k (0:Nat) (0:Nat) 0 [],(An c ⟨k1,true,a1,D0⟩ 2).2):=by simp only[Aj,Ax,Ay,Az,Bw,Ba,Bx,Ar,q_km,q_kn,e0];rfl
   rw[eR];refine q_ko ?_ (Cp 2);first|omega|(simp only;omega)
  cases b2;rotate_left
  ·have eR:Aj c T ns k [120,116,98] ⟨k0,false,a0,D0⟩=(.mk k (0:Nat) (0:Nat) 0 [u1],(An c ⟨k2,true,a2,D2⟩ 2).2):=by simp only[Aj,Ax,Ay,Az,Bw,Ba,Bx,Ar,q_km,q_kn,e0,e1];rfl
   rw[eR];refine q_ko ?_ (Cp 2);first|omega|(simp only;omega)
  have eR:Aj c T ns k [120,116,98] ⟨k0,false,a0,D0⟩=(.mk k (0:Nat) (0:Nat) 0 [u1,u2],(An c ⟨k3,b3,a3,D3⟩ 2).2):=by simp only[Aj,Ax,Ay,Az,Bw,Ba,Bx,Ar,q_km,q_kn,e0,e1,e2];rfl
  rw[eR];refine q_ko ?_ (Cp 2);first|omega|(simp only;omega)
 ·cases b1;rotate_left
  ·have eR:Aj c T ns k [120,116,98] ⟨k0,false,a0,D0⟩=(.mk k (0:Nat) (0:Nat) 0 [],(An c ⟨k1,true,a1,D0⟩ 2).2):=by simp only[Aj,Ax,Ay,Az,Bw,Ba,Bx,Ar,q_km,q_kn,e0];rfl
   rw[eR];rw[Bm];exact hN
  cases b2;rotate_left
  ·have eR:Aj c T ns k [120,116,98] ⟨k0,false,a0,D0⟩=(.mk k (0:Nat) (0:Nat) 0 [u1],(An c ⟨k2,true,a2,D2⟩ 2).2):=by simp only[Aj,Ax,Ay,Az,Bw,Ba,Bx,Ar,q_km,q_kn,e0,e1];rfl
   rw[eR];rw[Bm];exact N2
  have eR:Aj c T ns k [120,116,98] ⟨k0,false,a0,D0⟩=(.mk k (0:Nat) (0:Nat) 0 [u1,u2],(An c ⟨k3,b3,a3,D3⟩ 2).2):=by simp only[Aj,Ax,Ay,Az,Bw,Ba,Bx,Ar,q_km,q_kn,e0,e1,e2];rfl
  rw[eR];rw[Bm];exact N3
 refine Hg (r:=.agg true (tvn (Aj c T ns k [120,116,98] ⟨k0,false,a0,D0⟩).1)) ?_ (Ip _);have Ly:3<=140737488355328:=by decide
 have Bd:(ns.reverse.map wdG).length=ns.length:=by simp
 have Bc:ns.length*16<=140737488355328:=by omega
 have Be:ns.length<=140737488355328:=by omega
 have Bf:(ns.length+1)*16<=140737488355328:=by omega
 have Bg:ns.length<=140737488355327:=by omega
 rw[show nmG (u0::ns)=.dsl 1 (ns.reverse.map wdG++[[SV.str (bs u0)]]) by simp[nmG,wdG]] at c2;rw[show nmG ns=.dsl 1 (ns.reverse.map wdG) from rfl] at *
 generalize ns.reverse.map wdG=R at *
 have Aw:List.take (ns.length+1) (R++[[SV.str (bs u0)]])=R++[[SV.str (bs u0)]]:=q_js (by simp;omega);refine Cl mixed Tryz.func190 tr190 ?_;unfold rdS at c0 c1 c2 |-;simp only[go_sem,seval,Fm];refine Ff 4 (Bk ?_);simp only[go_sem,seval,v98,v116,v120,wq7,wq8,Am,z1,z2,Bd,Bc,Be,Bf,Bg,Aw];refine Ai c0 ?_;simp only[go_sem,seval,v98,v116,v120,wq7,wq8,Am,z1,z2,Bd,Bc,Be,Bf,Bg,Aw];cases b1;rotate_left
 ·refine Bk ?_;have ce:=Cj (nm:=.dsl 1 R) (s:=⟨k1,true,a1,D0⟩) (G:=G++D0) hc 2;have eR:Aj c T ns k [120,116,98] ⟨k0,false,a0,D0⟩=(.mk k (0:Nat) (0:Nat) 0 [],(An c ⟨k1,true,a1,D0⟩ 2).2):=by simp only[Aj,Ax,Ay,Az,Bw,Ba,Bx,Ar,q_km,q_kn,e0];rfl
  rw[eR,Bm,Hv];unfold rdS at ce;simp only[go_sem,seval,v98,v116,v120,wq7,wq8,Am,z1,z2,Bd,Bc,Be,Bf,Bg,Aw];refine Ai ce ?_;simp only[go_sem,seval,v98,v116,v120,wq7,wq8,Am,z1,z2,Bd,Bc,Be,Bf,Bg,Aw,q_h,q_i]
 refine Bk ?_;simp only[go_sem,seval,v98,v116,v120,wq7,wq8,Am,z1,z2,Bd,Bc,Be,Bf,Bg,Aw];refine Ai c1 ?_;simp only[go_sem,seval,v98,v116,v120,wq7,wq8,Am,z1,z2,Bd,Bc,Be,Bf,Bg,Aw];cases b2;rotate_left
 ·refine Bk ?_;have ce:=Cj (nm:=.dsl 1 R) (s:=⟨k2,true,a2,D2⟩) (G:=G++D2) hc 2;have eR:Aj c T ns k [120,116,98] ⟨k0,false,a0,D0⟩=(.mk k (0:Nat) (0:Nat) 0 [u1],(An c ⟨k2,true,a2,D2⟩ 2).2):=by simp only[Aj,Ax,Ay,Az,Bw,Ba,Bx,Ar,q_km,q_kn,e0,e1];rfl
  rw[eR,Bm,Ds];unfold rdS at ce;simp only[go_sem,seval,v98,v116,v120,wq7,wq8,Am,z1,z2,Bd,Bc,Be,Bf,Bg,Aw];refine Ai ce ?_;simp only[go_sem,seval,v98,v116,v120,wq7,wq8,Am,z1,z2,Bd,Bc,Be,Bf,Bg,Aw,q_h,q_i]
 refine Bk ?_;simp only[go_sem,seval,v98,v116,v120,wq7,wq8,Am,z1,z2,Bd,Bc,Be,Bf,Bg,Aw];refine Ai c2 ?_;simp only[go_sem,seval,v98,v116,v120,wq7,wq8,Am,z1,z2,Bd,Bc,Be,Bf,Bg,Aw];refine Bk ?_;have ce:=Cj (nm:=.dsl 1 R) (s:=⟨k3,b3,a3,D3⟩) (G:=G++D3) hc 2;have eR:Aj c T ns k [120,116,98] ⟨k0,false,a0,D0⟩=(.mk k (0:Nat) (0:Nat) 0 [u1,u2],(An c ⟨k3,b3,a3,D3⟩ 2).2):=by simp only[Aj,Ax,Ay,Az,Bw,Ba,Bx,Ar,q_km,q_kn,e0,e1,e2];rfl
 rw[eR,Bm,Ds];unfold rdS at ce;simp only[go_sem,seval,v98,v116,v120,wq7,wq8,Am,z1,z2,Bd,Bc,Be,Bf,Bg,Aw];refine Ai ce ?_;simp only[go_sem,seval,v98,v116,v120,wq7,wq8,Am,z1,z2,Bd,Bc,Be,Bf,Bg,Aw,q_h,q_i]
end
section
variable{c:RC}{T:TR}{f:Nat}{ns:List By}{k:Nat}{s:RS}{G:GV}
def Aym(hc:Fz c)(hT:TCG c T f)(Cc:ns.length+3*f+2<100000000000)(hk:12<k/\k≠23)(hb:s.bad=false)(hN:NGr s.D)(hG:NGr G)(hs:c.L.length<s.k+f):LCG c T ns k [120,116,98,116,116] s G:=by
 obtain⟨k0,b0,a0,D0⟩:=s;simp only at hs hN hb;subst hb;have Ar:ofR k=2:=by unfold ofR;rw[if_neg (by omega)]
 have Fm:¬(k:Int)<=12:=by omega
 have Bs:k≠23:=hk.2;have Am:((k:Int)==23)=false:=by rw[beq_eq_false_iff_ne];omega
 have c0:=Cj (nm:=nmG ns) (s:=⟨k0,false,a0,D0⟩) (G:=G++D0) hc 3;have d0:=(Bm (c:=c) (s:=⟨k0,false,a0,D0⟩) 3).symm;have m0:=Cp (c:=c) (s:=⟨k0,false,a0,D0⟩) 3;generalize e0:An c ⟨k0,false,a0,D0⟩ 3=q at c0 d0 m0;obtain⟨u0,k1,b1,a1,E1⟩:=q;simp only at c0 d0 m0;subst d0;have t1:=hT ns 2 ⟨k1,false,a1,D0⟩ G (by first|omega|(simp only;omega)) (by first|omega|(simp at Cc |-;omega)) (by decide) hN hG;generalize e1:T ns 2 ⟨k1,false,a1,D0⟩=q at t1;obtain⟨u1,k2,b2,a2,D2⟩:=q;obtain⟨c1,m1,N2⟩:=t1;simp only at c1 m1 N2;have z1:=Bz u1;have t2:=hT (u0::ns) 2 ⟨k2,false,a2,D2⟩ G (by first|omega|(simp only;omega)) (by first|omega|(simp at Cc |-;omega)) (by decide) N2 hG;generalize e2:T (u0::ns) 2 ⟨k2,false,a2,D2⟩=q at t2;obtain⟨u2,k3,b3,a3,D3⟩:=q;obtain⟨c2,m2,N3⟩:=t2;simp only at c2 m2 N3;have z2:=Bz u2;have t3:=hT ns 2 ⟨k3,false,a3,D3⟩ G (by first|omega|(simp only;omega)) (by first|omega|(simp at Cc |-;omega)) (by decide) N3 hG;generalize e3:T ns 2 ⟨k3,false,a3,D3⟩=q at t3;obtain⟨u3,k4,b4,a4,D4⟩:=q;obtain⟨c3,m3,N4⟩:=t3;simp only at c3 m3 N4;have z3:=Bz u3;have t4:=hT ns 2 ⟨k4,false,a4,D4⟩ G (by first|omega|(simp only;omega)) (by first|omega|(simp at Cc |-;omega)) (by decide) N4 hG;generalize e4:T ns 2 ⟨k4,false,a4,D4⟩=q at t4;obtain⟨u4,k5,b5,a5,D5⟩:=q;obtain⟨c4,m4,N5⟩:=t4;simp only at c4 m4 N5;have z4:=Bz u4;refine⟨?_,?_,?_⟩;rotate_left
 ·cases b1;rotate_left
  ·have eR:Aj c T ns k [120,116,98,116,116] ⟨k0,false,a0,D0⟩=(.mk k (0:Nat) (0:Nat) 0 [],(An c ⟨k1,true,a1,D0⟩ 2).2):=by simp only[Aj,Ax,Ay,Az,Bw,Ba,Bx,Ar,q_km,q_kn,e0];rfl
   rw[eR];refine q_ko ?_ (Cp 2);first|omega|(simp only;omega)
  cases b2;rotate_left
  ·have eR:Aj c T ns k [120,116,98,116,116] ⟨k0,false,a0,D0⟩=(.mk k (0:Nat) (0:Nat) 0 [u1],(An c ⟨k2,true,a2,D2⟩ 2).2):=by simp only[Aj,Ax,Ay,Az,Bw,Ba,Bx,Ar,q_km,q_kn,e0,e1];rfl
   rw[eR];refine q_ko ?_ (Cp 2);first|omega|(simp only;omega)
  cases b3;rotate_left
  ·have eR:Aj c T ns k [120,116,98,116,116] ⟨k0,false,a0,D0⟩=(.mk k (0:Nat) (0:Nat) 0 [u1,u2],(An c ⟨k3,true,a3,D3⟩ 2).2):=by simp only[Aj,Ax,Ay,Az,Bw,Ba,Bx,Ar,q_km,q_kn,e0,e1,e2];rfl
   rw[eR];refine q_ko ?_ (Cp 2);first|omega|(simp only;omega)
  cases b4;rotate_left
  ·have eR:Aj c T ns k [120,116,98,116,116] ⟨k0,false,a0,D0⟩=(.mk k (0:Nat) (0:Nat) 0 [u1,u2,u3],(An c ⟨k4,true,a4,D4⟩ 2).2):=by simp only[Aj,Ax,Ay,Az,Bw,Ba,Bx,Ar,q_km,q_kn,e0,e1,e2,e3];rfl
   rw[eR];refine q_ko ?_ (Cp 2);first|omega|(simp only;omega)
  have eR:Aj c T ns k [120,116,98,116,116] ⟨k0,false,a0,D0⟩=(.mk k (0:Nat) (0:Nat) 0 [u1,u2,u3,u4],(An c ⟨k5,b5,a5,D5⟩ 2).2):=by simp only[Aj,Ax,Ay,Az,Bw,Ba,Bx,Ar,q_km,q_kn,e0,e1,e2,e3,e4];rfl
  rw[eR];refine q_ko ?_ (Cp 2);first|omega|(simp only;omega)
 ·cases b1;rotate_left
  ·have eR:Aj c T ns k [120,116,98,116,116] ⟨k0,false,a0,D0⟩=(.mk k (0:Nat) (0:Nat) 0 [],(An c ⟨k1,true,a1,D0⟩ 2).2):=by simp only[Aj,Ax,Ay,Az,Bw,Ba,Bx,Ar,q_km,q_kn,e0];rfl
   rw[eR];rw[Bm];exact hN
  cases b2;rotate_left
  ·have eR:Aj c T ns k [120,116,98,116,116] ⟨k0,false,a0,D0⟩=(.mk k (0:Nat) (0:Nat) 0 [u1],(An c ⟨k2,true,a2,D2⟩ 2).2):=by simp only[Aj,Ax,Ay,Az,Bw,Ba,Bx,Ar,q_km,q_kn,e0,e1];rfl
   rw[eR];rw[Bm];exact N2
  cases b3;rotate_left
  ·have eR:Aj c T ns k [120,116,98,116,116] ⟨k0,false,a0,D0⟩=(.mk k (0:Nat) (0:Nat) 0 [u1,u2],(An c ⟨k3,true,a3,D3⟩ 2).2):=by simp only[Aj,Ax,Ay,Az,Bw,Ba,Bx,Ar,q_km,q_kn,e0,e1,e2];rfl
   rw[eR];rw[Bm];exact N3
  cases b4;rotate_left
  ·have eR:Aj c T ns k [120,116,98,116,116] ⟨k0,false,a0,D0⟩=(.mk k (0:Nat) (0:Nat) 0 [u1,u2,u3],(An c ⟨k4,true,a4,D4⟩ 2).2):=by simp only[Aj,Ax,Ay,Az,Bw,Ba,Bx,Ar,q_km,q_kn,e0,e1,e2,e3];rfl
   rw[eR];rw[Bm];exact N4
  have eR:Aj c T ns k [120,116,98,116,116] ⟨k0,false,a0,D0⟩=(.mk k (0:Nat) (0:Nat) 0 [u1,u2,u3,u4],(An c ⟨k5,b5,a5,D5⟩ 2).2):=by simp only[Aj,Ax,Ay,Az,Bw,Ba,Bx,Ar,q_km,q_kn,e0,e1,e2,e3,e4];rfl
  rw[eR];rw[Bm];exact N5
 refine Hg (r:=.agg true (tvn (Aj c T ns k [120,116,98,116,116] ⟨k0,false,a0,D0⟩).1)) ?_ (Ip _);have Ly:5<=140737488355328:=by decide
 have Bd:(ns.reverse.map wdG).length=ns.length:=by simp
 have Bc:ns.length*16<=140737488355328:=by omega
 have Be:ns.length<=140737488355328:=by omega
 have Bf:(ns.length+1)*16<=140737488355328:=by omega
 have Bg:ns.length<=140737488355327:=by omega
 rw[show nmG (u0::ns)=.dsl 1 (ns.reverse.map wdG++[[SV.str (bs u0)]]) by simp[nmG,wdG]] at c2;rw[show nmG ns=.dsl 1 (ns.reverse.map wdG) from rfl] at *
 generalize ns.reverse.map wdG=R at *
 have Aw:List.take (ns.length+1) (R++[[SV.str (bs u0)]])=R++[[SV.str (bs u0)]]:=q_js (by simp;omega);refine Cl mixed Tryz.func190 tr190 ?_;unfold rdS at c0 c1 c2 c3 c4 |-;simp only[go_sem,seval,Fm];refine Ff 6 (Bk ?_);simp only[go_sem,seval,v98,v116,v120,wq7,wq8,Am,z1,z2,z3,z4,Bd,Bc,Be,Bf,Bg,Aw];refine Ai c0 ?_;simp only[go_sem,seval,v98,v116,v120,wq7,wq8,Am,z1,z2,z3,z4,Bd,Bc,Be,Bf,Bg,Aw];cases b1;rotate_left
 ·refine Bk ?_;have ce:=Cj (nm:=.dsl 1 R) (s:=⟨k1,true,a1,D0⟩) (G:=G++D0) hc 2;have eR:Aj c T ns k [120,116,98,116,116] ⟨k0,false,a0,D0⟩=(.mk k (0:Nat) (0:Nat) 0 [],(An c ⟨k1,true,a1,D0⟩ 2).2):=by simp only[Aj,Ax,Ay,Az,Bw,Ba,Bx,Ar,q_km,q_kn,e0];rfl
  rw[eR,Bm,Hv];unfold rdS at ce;simp only[go_sem,seval,v98,v116,v120,wq7,wq8,Am,z1,z2,z3,z4,Bd,Bc,Be,Bf,Bg,Aw];refine Ai ce ?_;simp only[go_sem,seval,v98,v116,v120,wq7,wq8,Am,z1,z2,z3,z4,Bd,Bc,Be,Bf,Bg,Aw,q_h,q_i]
 refine Bk ?_;simp only[go_sem,seval,v98,v116,v120,wq7,wq8,Am,z1,z2,z3,z4,Bd,Bc,Be,Bf,Bg,Aw];refine Ai c1 ?_;simp only[go_sem,seval,v98,v116,v120,wq7,wq8,Am,z1,z2,z3,z4,Bd,Bc,Be,Bf,Bg,Aw];cases b2;rotate_left
 ·refine Bk ?_;have ce:=Cj (nm:=.dsl 1 R) (s:=⟨k2,true,a2,D2⟩) (G:=G++D2) hc 2;have eR:Aj c T ns k [120,116,98,116,116] ⟨k0,false,a0,D0⟩=(.mk k (0:Nat) (0:Nat) 0 [u1],(An c ⟨k2,true,a2,D2⟩ 2).2):=by simp only[Aj,Ax,Ay,Az,Bw,Ba,Bx,Ar,q_km,q_kn,e0,e1];rfl
  rw[eR,Bm,Ds];unfold rdS at ce;simp only[go_sem,seval,v98,v116,v120,wq7,wq8,Am,z1,z2,z3,z4,Bd,Bc,Be,Bf,Bg,Aw];refine Ai ce ?_;simp only[go_sem,seval,v98,v116,v120,wq7,wq8,Am,z1,z2,z3,z4,Bd,Bc,Be,Bf,Bg,Aw,q_h,q_i]
 refine Bk ?_;simp only[go_sem,seval,v98,v116,v120,wq7,wq8,Am,z1,z2,z3,z4,Bd,Bc,Be,Bf,Bg,Aw];refine Ai c2 ?_;simp only[go_sem,seval,v98,v116,v120,wq7,wq8,Am,z1,z2,z3,z4,Bd,Bc,Be,Bf,Bg,Aw];cases b3;rotate_left
 ·refine Bk ?_;have ce:=Cj (nm:=.dsl 1 R) (s:=⟨k3,true,a3,D3⟩) (G:=G++D3) hc 2;have eR:Aj c T ns k [120,116,98,116,116] ⟨k0,false,a0,D0⟩=(.mk k (0:Nat) (0:Nat) 0 [u1,u2],(An c ⟨k3,true,a3,D3⟩ 2).2):=by simp only[Aj,Ax,Ay,Az,Bw,Ba,Bx,Ar,q_km,q_kn,e0,e1,e2];rfl
  rw[eR,Bm,Ds];unfold rdS at ce;simp only[go_sem,seval,v98,v116,v120,wq7,wq8,Am,z1,z2,z3,z4,Bd,Bc,Be,Bf,Bg,Aw];refine Ai ce ?_;simp only[go_sem,seval,v98,v116,v120,wq7,wq8,Am,z1,z2,z3,z4,Bd,Bc,Be,Bf,Bg,Aw,q_h,q_i]
 refine Bk ?_;simp only[go_sem,seval,v98,v116,v120,wq7,wq8,Am,z1,z2,z3,z4,Bd,Bc,Be,Bf,Bg,Aw];refine Ai c3 ?_;simp only[go_sem,seval,v98,v116,v120,wq7,wq8,Am,z1,z2,z3,z4,Bd,Bc,Be,Bf,Bg,Aw];cases b4;rotate_left
 ·refine Bk ?_;have ce:=Cj (nm:=.dsl 1 R) (s:=⟨k4,true,a4,D4⟩) (G:=G++D4) hc 2;have eR:Aj c T ns k [120,116,98,116,116] ⟨k0,false,a0,D0⟩=(.mk k (0:Nat) (0:Nat) 0 [u1,u2,u3],(An c ⟨k4,true,a4,D4⟩ 2).2):=by simp only[Aj,Ax,Ay,Az,Bw,Ba,Bx,Ar,q_km,q_kn,e0,e1,e2,e3];rfl
  rw[eR,Bm,Ds];unfold rdS at ce;simp only[go_sem,seval,v98,v116,v120,wq7,wq8,Am,z1,z2,z3,z4,Bd,Bc,Be,Bf,Bg,Aw];refine Ai ce ?_;simp only[go_sem,seval,v98,v116,v120,wq7,wq8,Am,z1,z2,z3,z4,Bd,Bc,Be,Bf,Bg,Aw,q_h,q_i]
 refine Bk ?_;simp only[go_sem,seval,v98,v116,v120,wq7,wq8,Am,z1,z2,z3,z4,Bd,Bc,Be,Bf,Bg,Aw];refine Ai c4 ?_;simp only[go_sem,seval,v98,v116,v120,wq7,wq8,Am,z1,z2,z3,z4,Bd,Bc,Be,Bf,Bg,Aw];refine Bk ?_;have ce:=Cj (nm:=.dsl 1 R) (s:=⟨k5,b5,a5,D5⟩) (G:=G++D5) hc 2;have eR:Aj c T ns k [120,116,98,116,116] ⟨k0,false,a0,D0⟩=(.mk k (0:Nat) (0:Nat) 0 [u1,u2,u3,u4],(An c ⟨k5,b5,a5,D5⟩ 2).2):=by simp only[Aj,Ax,Ay,Az,Bw,Ba,Bx,Ar,q_km,q_kn,e0,e1,e2,e3,e4];rfl
 rw[eR,Bm,Ds];unfold rdS at ce;simp only[go_sem,seval,v98,v116,v120,wq7,wq8,Am,z1,z2,z3,z4,Bd,Bc,Be,Bf,Bg,Aw];refine Ai ce ?_;simp only[go_sem,seval,v98,v116,v120,wq7,wq8,Am,z1,z2,z3,z4,Bd,Bc,Be,Bf,Bg,Aw,q_h,q_i]
def Ak6(hc:Fz c)(hT:TCG c T f)(Cc:ns.length+3*f+2<100000000000)(hk:k<=12)(hb:s.bad=false)(hN:NGr s.D)(hG:NGr G)(hs:c.L.length<s.k+f):LCG c T ns k [76,77,120,116,98] s G:=by
 obtain⟨k0,b0,a0,D0⟩:=s;simp only at hs hN hb;subst hb;have Ar:ofR k=1:=by unfold ofR;rw[if_pos hk]
 have Fm:(k:Int)<=12:=by omega
 have Bs:k≠23:=by omega
 have Am:((k:Int)==23)=false:=by rw[beq_eq_false_iff_ne];omega
 have c0:=Li (nm:=nmG ns) (G:=G++D0) hc (c.L.length+1) ⟨k0,false,a0,D0⟩ (q_ja _) (by simp only;omega) (by omega);have d0:=(Ll (c:=c) (c.L.length+1) ⟨k0,false,a0,D0⟩).symm;have m0:=Kw (c:=c) (c.L.length+1) ⟨k0,false,a0,D0⟩;generalize e0:Cy c (c.L.length+1) ⟨k0,false,a0,D0⟩=q at c0 d0 m0;obtain⟨u0,k1,b1,a1,E1⟩:=q;simp only at c0 d0 m0;subst d0;have c1:=Li (nm:=nmG ns) (G:=G++D0) hc (c.L.length+1) ⟨k1,false,a1,D0⟩ (q_ja _) (by simp only;omega) (by omega);have d1:=(Ll (c:=c) (c.L.length+1) ⟨k1,false,a1,D0⟩).symm;have m1:=Kw (c:=c) (c.L.length+1) ⟨k1,false,a1,D0⟩;generalize e1:Cy c (c.L.length+1) ⟨k1,false,a1,D0⟩=q at c1 d1 m1;obtain⟨u1,k2,b2,a2,E2⟩:=q;simp only at c1 d1 m1;subst d1;have c2:=Cj (nm:=nmG ns) (s:=⟨k2,false,a2,D0⟩) (G:=G++D0) hc 3;have d2:=(Bm (c:=c) (s:=⟨k2,false,a2,D0⟩) 3).symm;have m2:=Cp (c:=c) (s:=⟨k2,false,a2,D0⟩) 3;generalize e2:An c ⟨k2,false,a2,D0⟩ 3=q at c2 d2 m2;obtain⟨u2,k3,b3,a3,E3⟩:=q;simp only at c2 d2 m2;subst d2;have t3:=hT ns 1 ⟨k3,false,a3,D0⟩ G (by first|omega|(simp only;omega)) (by first|omega|(simp at Cc |-;omega)) (by decide) hN hG;generalize e3:T ns 1 ⟨k3,false,a3,D0⟩=q at t3;obtain⟨u3,k4,b4,a4,D4⟩:=q;obtain⟨c3,m3,N4⟩:=t3;simp only at c3 m3 N4;have z3:=Bz u3;have t4:=hT (u2::ns) 1 ⟨k4,false,a4,D4⟩ G (by first|omega|(simp only;omega)) (by first|omega|(simp at Cc |-;omega)) (by decide) N4 hG;generalize e4:T (u2::ns) 1 ⟨k4,false,a4,D4⟩=q at t4;obtain⟨u4,k5,b5,a5,D5⟩:=q;obtain⟨c4,m4,N5⟩:=t4;simp only at c4 m4 N5;have z4:=Bz u4;refine⟨?_,?_,?_⟩;rotate_left
 ·cases b1;rotate_left
  ·have eR:Aj c T ns k [76,77,120,116,98] ⟨k0,false,a0,D0⟩=(.mk k (u0:Nat) (0:Nat) 0 [],(An c ⟨k1,true,a1,D0⟩ 2).2):=by simp only[Aj,Ax,Ay,Az,Bq,Cq Bs,Bw,Ba,Bx,Ar,q_km,q_kn,e0];rfl
   rw[eR];refine q_ko ?_ (Cp 2);first|omega|(simp only;omega)
  cases b2;rotate_left
  ·have eR:Aj c T ns k [76,77,120,116,98] ⟨k0,false,a0,D0⟩=(.mk k (u0:Nat) (u1:Nat) 0 [],(An c ⟨k2,true,a2,D0⟩ 2).2):=by simp only[Aj,Ax,Ay,Az,Bq,Cq Bs,Bw,Ba,Bx,Ar,q_km,q_kn,e0,e1];rfl
   rw[eR];refine q_ko ?_ (Cp 2);first|omega|(simp only;omega)
  cases b3;rotate_left
  ·have eR:Aj c T ns k [76,77,120,116,98] ⟨k0,false,a0,D0⟩=(.mk k (u0:Nat) (u1:Nat) 0 [],(An c ⟨k3,true,a3,D0⟩ 2).2):=by simp only[Aj,Ax,Ay,Az,Bq,Cq Bs,Bw,Ba,Bx,Ar,q_km,q_kn,e0,e1,e2];rfl
   rw[eR];refine q_ko ?_ (Cp 2);first|omega|(simp only;omega)
  cases b4;rotate_left
  ·have eR:Aj c T ns k [76,77,120,116,98] ⟨k0,false,a0,D0⟩=(.mk k (u0:Nat) (u1:Nat) 0 [u3],(An c ⟨k4,true,a4,D4⟩ 2).2):=by simp only[Aj,Ax,Ay,Az,Bq,Cq Bs,Bw,Ba,Bx,Ar,q_km,q_kn,e0,e1,e2,e3];rfl
   rw[eR];refine q_ko ?_ (Cp 2);first|omega|(simp only;omega)
  have eR:Aj c T ns k [76,77,120,116,98] ⟨k0,false,a0,D0⟩=(.mk k (u0:Nat) (u1:Nat) 0 [u3,u4],(An c ⟨k5,b5,a5,D5⟩ 2).2):=by simp only[Aj,Ax,Ay,Az,Bq,Cq Bs,Bw,Ba,Bx,Ar,q_km,q_kn,e0,e1,e2,e3,e4];rfl
  rw[eR];refine q_ko ?_ (Cp 2);first|omega|(simp only;omega)
 ·cases b1;rotate_left
  ·have eR:Aj c T ns k [76,77,120,116,98] ⟨k0,false,a0,D0⟩=(.mk k (u0:Nat) (0:Nat) 0 [],(An c ⟨k1,true,a1,D0⟩ 2).2):=by simp only[Aj,Ax,Ay,Az,Bq,Cq Bs,Bw,Ba,Bx,Ar,q_km,q_kn,e0];rfl
   rw[eR];rw[Bm];exact hN
  cases b2;rotate_left
  ·have eR:Aj c T ns k [76,77,120,116,98] ⟨k0,false,a0,D0⟩=(.mk k (u0:Nat) (u1:Nat) 0 [],(An c ⟨k2,true,a2,D0⟩ 2).2):=by simp only[Aj,Ax,Ay,Az,Bq,Cq Bs,Bw,Ba,Bx,Ar,q_km,q_kn,e0,e1];rfl
   rw[eR];rw[Bm];exact hN
  cases b3;rotate_left
  ·have eR:Aj c T ns k [76,77,120,116,98] ⟨k0,false,a0,D0⟩=(.mk k (u0:Nat) (u1:Nat) 0 [],(An c ⟨k3,true,a3,D0⟩ 2).2):=by simp only[Aj,Ax,Ay,Az,Bq,Cq Bs,Bw,Ba,Bx,Ar,q_km,q_kn,e0,e1,e2];rfl
   rw[eR];rw[Bm];exact hN
  cases b4;rotate_left
  ·have eR:Aj c T ns k [76,77,120,116,98] ⟨k0,false,a0,D0⟩=(.mk k (u0:Nat) (u1:Nat) 0 [u3],(An c ⟨k4,true,a4,D4⟩ 2).2):=by simp only[Aj,Ax,Ay,Az,Bq,Cq Bs,Bw,Ba,Bx,Ar,q_km,q_kn,e0,e1,e2,e3];rfl
   rw[eR];rw[Bm];exact N4
  have eR:Aj c T ns k [76,77,120,116,98] ⟨k0,false,a0,D0⟩=(.mk k (u0:Nat) (u1:Nat) 0 [u3,u4],(An c ⟨k5,b5,a5,D5⟩ 2).2):=by simp only[Aj,Ax,Ay,Az,Bq,Cq Bs,Bw,Ba,Bx,Ar,q_km,q_kn,e0,e1,e2,e3,e4];rfl
  rw[eR];rw[Bm];exact N5
 refine Hg (r:=.agg true (tvn (Aj c T ns k [76,77,120,116,98] ⟨k0,false,a0,D0⟩).1)) ?_ (Ip _);have Ly:5<=140737488355328:=by decide
 have Bd:(ns.reverse.map wdG).length=ns.length:=by simp
 have Bc:ns.length*16<=140737488355328:=by omega
 have Be:ns.length<=140737488355328:=by omega
 have Bf:(ns.length+1)*16<=140737488355328:=by omega
 have Bg:ns.length<=140737488355327:=by omega
 rw[show nmG (u2::ns)=.dsl 1 (ns.reverse.map wdG++[[SV.str (bs u2)]]) by simp[nmG,wdG]] at c4;rw[show nmG ns=.dsl 1 (ns.reverse.map wdG) from rfl] at *
 generalize ns.reverse.map wdG=R at *
 have Aw:List.take (ns.length+1) (R++[[SV.str (bs u2)]])=R++[[SV.str (bs u2)]]:=q_js (by simp;omega);refine Cl mixed Tryz.func190 tr190 ?_;unfold rdS at c0 c1 c2 c3 c4 |-;simp only[go_sem,seval,Fm];refine Ff 6 (Bk ?_);simp only[go_sem,seval,v76,v77,v98,v116,v120,wq7,wq8,Am,z3,z4,Bd,Bc,Be,Bf,Bg,Aw];refine Ai c0 ?_;simp only[go_sem,seval,v76,v77,v98,v116,v120,wq7,wq8,Am,z3,z4,Bd,Bc,Be,Bf,Bg,Aw];cases b1;rotate_left
 ·refine Bk ?_;have ce:=Cj (nm:=.dsl 1 R) (s:=⟨k1,true,a1,D0⟩) (G:=G++D0) hc 2;have eR:Aj c T ns k [76,77,120,116,98] ⟨k0,false,a0,D0⟩=(.mk k (u0:Nat) (0:Nat) 0 [],(An c ⟨k1,true,a1,D0⟩ 2).2):=by simp only[Aj,Ax,Ay,Az,Bq,Cq Bs,Bw,Ba,Bx,Ar,q_km,q_kn,e0];rfl
  rw[eR,Bm,Hv];unfold rdS at ce;simp only[go_sem,seval,v76,v77,v98,v116,v120,wq7,wq8,Am,z3,z4,Bd,Bc,Be,Bf,Bg,Aw];refine Ai ce ?_;simp only[go_sem,seval,v76,v77,v98,v116,v120,wq7,wq8,Am,z3,z4,Bd,Bc,Be,Bf,Bg,Aw,q_h,q_i]
 refine Bk ?_;simp only[go_sem,seval,v76,v77,v98,v116,v120,wq7,wq8,Am,z3,z4,Bd,Bc,Be,Bf,Bg,Aw];refine Ai c1 ?_;simp only[go_sem,seval,v76,v77,v98,v116,v120,wq7,wq8,Am,z3,z4,Bd,Bc,Be,Bf,Bg,Aw];cases b2;rotate_left
 ·refine Bk ?_;have ce:=Cj (nm:=.dsl 1 R) (s:=⟨k2,true,a2,D0⟩) (G:=G++D0) hc 2;have eR:Aj c T ns k [76,77,120,116,98] ⟨k0,false,a0,D0⟩=(.mk k (u0:Nat) (u1:Nat) 0 [],(An c ⟨k2,true,a2,D0⟩ 2).2):=by simp only[Aj,Ax,Ay,Az,Bq,Cq Bs,Bw,Ba,Bx,Ar,q_km,q_kn,e0,e1];rfl
  rw[eR,Bm,Hv];unfold rdS at ce;simp only[go_sem,seval,v76,v77,v98,v116,v120,wq7,wq8,Am,z3,z4,Bd,Bc,Be,Bf,Bg,Aw];refine Ai ce ?_;simp only[go_sem,seval,v76,v77,v98,v116,v120,wq7,wq8,Am,z3,z4,Bd,Bc,Be,Bf,Bg,Aw,q_h,q_i]
 refine Bk ?_;simp only[go_sem,seval,v76,v77,v98,v116,v120,wq7,wq8,Am,z3,z4,Bd,Bc,Be,Bf,Bg,Aw];refine Ai c2 ?_;simp only[go_sem,seval,v76,v77,v98,v116,v120,wq7,wq8,Am,z3,z4,Bd,Bc,Be,Bf,Bg,Aw];cases b3;rotate_left
 ·refine Bk ?_;have ce:=Cj (nm:=.dsl 1 R) (s:=⟨k3,true,a3,D0⟩) (G:=G++D0) hc 2;have eR:Aj c T ns k [76,77,120,116,98] ⟨k0,false,a0,D0⟩=(.mk k (u0:Nat) (u1:Nat) 0 [],(An c ⟨k3,true,a3,D0⟩ 2).2):=by simp only[Aj,Ax,Ay,Az,Bq,Cq Bs,Bw,Ba,Bx,Ar,q_km,q_kn,e0,e1,e2];rfl
  rw[eR,Bm,Hv];unfold rdS at ce;simp only[go_sem,seval,v76,v77,v98,v116,v120,wq7,wq8,Am,z3,z4,Bd,Bc,Be,Bf,Bg,Aw];refine Ai ce ?_;simp only[go_sem,seval,v76,v77,v98,v116,v120,wq7,wq8,Am,z3,z4,Bd,Bc,Be,Bf,Bg,Aw,q_h,q_i]
 refine Bk ?_;simp only[go_sem,seval,v76,v77,v98,v116,v120,wq7,wq8,Am,z3,z4,Bd,Bc,Be,Bf,Bg,Aw];refine Ai c3 ?_;simp only[go_sem,seval,v76,v77,v98,v116,v120,wq7,wq8,Am,z3,z4,Bd,Bc,Be,Bf,Bg,Aw];cases b4;rotate_left
 ·refine Bk ?_;have ce:=Cj (nm:=.dsl 1 R) (s:=⟨k4,true,a4,D4⟩) (G:=G++D4) hc 2;have eR:Aj c T ns k [76,77,120,116,98] ⟨k0,false,a0,D0⟩=(.mk k (u0:Nat) (u1:Nat) 0 [u3],(An c ⟨k4,true,a4,D4⟩ 2).2):=by simp only[Aj,Ax,Ay,Az,Bq,Cq Bs,Bw,Ba,Bx,Ar,q_km,q_kn,e0,e1,e2,e3];rfl
  rw[eR,Bm,Ds];unfold rdS at ce;simp only[go_sem,seval,v76,v77,v98,v116,v120,wq7,wq8,Am,z3,z4,Bd,Bc,Be,Bf,Bg,Aw];refine Ai ce ?_;simp only[go_sem,seval,v76,v77,v98,v116,v120,wq7,wq8,Am,z3,z4,Bd,Bc,Be,Bf,Bg,Aw,q_h,q_i]
 refine Bk ?_;simp only[go_sem,seval,v76,v77,v98,v116,v120,wq7,wq8,Am,z3,z4,Bd,Bc,Be,Bf,Bg,Aw];refine Ai c4 ?_;simp only[go_sem,seval,v76,v77,v98,v116,v120,wq7,wq8,Am,z3,z4,Bd,Bc,Be,Bf,Bg,Aw];refine Bk ?_;have ce:=Cj (nm:=.dsl 1 R) (s:=⟨k5,b5,a5,D5⟩) (G:=G++D5) hc 2;have eR:Aj c T ns k [76,77,120,116,98] ⟨k0,false,a0,D0⟩=(.mk k (u0:Nat) (u1:Nat) 0 [u3,u4],(An c ⟨k5,b5,a5,D5⟩ 2).2):=by simp only[Aj,Ax,Ay,Az,Bq,Cq Bs,Bw,Ba,Bx,Ar,q_km,q_kn,e0,e1,e2,e3,e4];rfl
 rw[eR,Bm,Ds];unfold rdS at ce;simp only[go_sem,seval,v76,v77,v98,v116,v120,wq7,wq8,Am,z3,z4,Bd,Bc,Be,Bf,Bg,Aw];refine Ai ce ?_;simp only[go_sem,seval,v76,v77,v98,v116,v120,wq7,wq8,Am,z3,z4,Bd,Bc,Be,Bf,Bg,Aw,q_h,q_i]
def Aye(hc:Fz c)(hT:TCG c T f)(Cc:ns.length+3*f+2<100000000000)(hk:k<=12)(hb:s.bad=false)(hN:NGr s.D)(hG:NGr G)(hs:c.L.length<s.k+f):LCG c T ns k [76,77,120,116,98,98] s G:=by
 obtain⟨k0,b0,a0,D0⟩:=s;simp only at hs hN hb;subst hb;have Ar:ofR k=1:=by unfold ofR;rw[if_pos hk]
 have Fm:(k:Int)<=12:=by omega
 have Bs:k≠23:=by omega
 have Am:((k:Int)==23)=false:=by rw[beq_eq_false_iff_ne];omega
 have c0:=Li (nm:=nmG ns) (G:=G++D0) hc (c.L.length+1) ⟨k0,false,a0,D0⟩ (q_ja _) (by simp only;omega) (by omega);have d0:=(Ll (c:=c) (c.L.length+1) ⟨k0,false,a0,D0⟩).symm;have m0:=Kw (c:=c) (c.L.length+1) ⟨k0,false,a0,D0⟩;generalize e0:Cy c (c.L.length+1) ⟨k0,false,a0,D0⟩=q at c0 d0 m0;obtain⟨u0,k1,b1,a1,E1⟩:=q;simp only at c0 d0 m0;subst d0;have c1:=Li (nm:=nmG ns) (G:=G++D0) hc (c.L.length+1) ⟨k1,false,a1,D0⟩ (q_ja _) (by simp only;omega) (by omega);have d1:=(Ll (c:=c) (c.L.length+1) ⟨k1,false,a1,D0⟩).symm;have m1:=Kw (c:=c) (c.L.length+1) ⟨k1,false,a1,D0⟩;generalize e1:Cy c (c.L.length+1) ⟨k1,false,a1,D0⟩=q at c1 d1 m1;obtain⟨u1,k2,b2,a2,E2⟩:=q;simp only at c1 d1 m1;subst d1;have c2:=Cj (nm:=nmG ns) (s:=⟨k2,false,a2,D0⟩) (G:=G++D0) hc 3;have d2:=(Bm (c:=c) (s:=⟨k2,false,a2,D0⟩) 3).symm;have m2:=Cp (c:=c) (s:=⟨k2,false,a2,D0⟩) 3;generalize e2:An c ⟨k2,false,a2,D0⟩ 3=q at c2 d2 m2;obtain⟨u2,k3,b3,a3,E3⟩:=q;simp only at c2 d2 m2;subst d2;have t3:=hT ns 1 ⟨k3,false,a3,D0⟩ G (by first|omega|(simp only;omega)) (by first|omega|(simp at Cc |-;omega)) (by decide) hN hG;generalize e3:T ns 1 ⟨k3,false,a3,D0⟩=q at t3;obtain⟨u3,k4,b4,a4,D4⟩:=q;obtain⟨c3,m3,N4⟩:=t3;simp only at c3 m3 N4;have z3:=Bz u3;have t4:=hT (u2::ns) 1 ⟨k4,false,a4,D4⟩ G (by first|omega|(simp only;omega)) (by first|omega|(simp at Cc |-;omega)) (by decide) N4 hG;generalize e4:T (u2::ns) 1 ⟨k4,false,a4,D4⟩=q at t4;obtain⟨u4,k5,b5,a5,D5⟩:=q;obtain⟨c4,m4,N5⟩:=t4;simp only at c4 m4 N5;have z4:=Bz u4;have t5:=hT (u2::ns) 1 ⟨k5,false,a5,D5⟩ G (by first|omega|(simp only;omega)) (by first|omega|(simp at Cc |-;omega)) (by decide) N5 hG;generalize e5:T (u2::ns) 1 ⟨k5,false,a5,D5⟩=q at t5;obtain⟨u5,k6,b6,a6,D6⟩:=q;obtain⟨c5,m5,N6⟩:=t5;simp only at c5 m5 N6;have z5:=Bz u5;refine⟨?_,?_,?_⟩;rotate_left
 ·cases b1;rotate_left
  ·have eR:Aj c T ns k [76,77,120,116,98,98] ⟨k0,false,a0,D0⟩=(.mk k (u0:Nat) (0:Nat) 0 [],(An c ⟨k1,true,a1,D0⟩ 2).2):=by simp only[Aj,Ax,Ay,Az,Bq,Cq Bs,Bw,Ba,Bx,Ar,q_km,q_kn,e0];rfl
   rw[eR];refine q_ko ?_ (Cp 2);first|omega|(simp only;omega)
  cases b2;rotate_left
  ·have eR:Aj c T ns k [76,77,120,116,98,98] ⟨k0,false,a0,D0⟩=(.mk k (u0:Nat) (u1:Nat) 0 [],(An c ⟨k2,true,a2,D0⟩ 2).2):=by simp only[Aj,Ax,Ay,Az,Bq,Cq Bs,Bw,Ba,Bx,Ar,q_km,q_kn,e0,e1];rfl
   rw[eR];refine q_ko ?_ (Cp 2);first|omega|(simp only;omega)
  cases b3;rotate_left
  ·have eR:Aj c T ns k [76,77,120,116,98,98] ⟨k0,false,a0,D0⟩=(.mk k (u0:Nat) (u1:Nat) 0 [],(An c ⟨k3,true,a3,D0⟩ 2).2):=by simp only[Aj,Ax,Ay,Az,Bq,Cq Bs,Bw,Ba,Bx,Ar,q_km,q_kn,e0,e1,e2];rfl
   rw[eR];refine q_ko ?_ (Cp 2);first|omega|(simp only;omega)
  cases b4;rotate_left
  ·have eR:Aj c T ns k [76,77,120,116,98,98] ⟨k0,false,a0,D0⟩=(.mk k (u0:Nat) (u1:Nat) 0 [u3],(An c ⟨k4,true,a4,D4⟩ 2).2):=by simp only[Aj,Ax,Ay,Az,Bq,Cq Bs,Bw,Ba,Bx,Ar,q_km,q_kn,e0,e1,e2,e3];rfl
   rw[eR];refine q_ko ?_ (Cp 2);first|omega|(simp only;omega)
  cases b5;rotate_left
  ·have eR:Aj c T ns k [76,77,120,116,98,98] ⟨k0,false,a0,D0⟩=(.mk k (u0:Nat) (u1:Nat) 0 [u3,u4],(An c ⟨k5,true,a5,D5⟩ 2).2):=by simp only[Aj,Ax,Ay,Az,Bq,Cq Bs,Bw,Ba,Bx,Ar,q_km,q_kn,e0,e1,e2,e3,e4];rfl
   rw[eR];refine q_ko ?_ (Cp 2);first|omega|(simp only;omega)
  have eR:Aj c T ns k [76,77,120,116,98,98] ⟨k0,false,a0,D0⟩=(.mk k (u0:Nat) (u1:Nat) 0 [u3,u4,u5],(An c ⟨k6,b6,a6,D6⟩ 2).2):=by simp only[Aj,Ax,Ay,Az,Bq,Cq Bs,Bw,Ba,Bx,Ar,q_km,q_kn,e0,e1,e2,e3,e4,e5];rfl
  rw[eR];refine q_ko ?_ (Cp 2);first|omega|(simp only;omega)
 ·cases b1;rotate_left
  ·have eR:Aj c T ns k [76,77,120,116,98,98] ⟨k0,false,a0,D0⟩=(.mk k (u0:Nat) (0:Nat) 0 [],(An c ⟨k1,true,a1,D0⟩ 2).2):=by simp only[Aj,Ax,Ay,Az,Bq,Cq Bs,Bw,Ba,Bx,Ar,q_km,q_kn,e0];rfl
   rw[eR];rw[Bm];exact hN
  cases b2;rotate_left
  ·have eR:Aj c T ns k [76,77,120,116,98,98] ⟨k0,false,a0,D0⟩=(.mk k (u0:Nat) (u1:Nat) 0 [],(An c ⟨k2,true,a2,D0⟩ 2).2):=by simp only[Aj,Ax,Ay,Az,Bq,Cq Bs,Bw,Ba,Bx,Ar,q_km,q_kn,e0,e1];rfl
   rw[eR];rw[Bm];exact hN
  cases b3;rotate_left
  ·have eR:Aj c T ns k [76,77,120,116,98,98] ⟨k0,false,a0,D0⟩=(.mk k (u0:Nat) (u1:Nat) 0 [],(An c ⟨k3,true,a3,D0⟩ 2).2):=by simp only[Aj,Ax,Ay,Az,Bq,Cq Bs,Bw,Ba,Bx,Ar,q_km,q_kn,e0,e1,e2];rfl
   rw[eR];rw[Bm];exact hN
  cases b4;rotate_left
  ·have eR:Aj c T ns k [76,77,120,116,98,98] ⟨k0,false,a0,D0⟩=(.mk k (u0:Nat) (u1:Nat) 0 [u3],(An c ⟨k4,true,a4,D4⟩ 2).2):=by simp only[Aj,Ax,Ay,Az,Bq,Cq Bs,Bw,Ba,Bx,Ar,q_km,q_kn,e0,e1,e2,e3];rfl
   rw[eR];rw[Bm];exact N4
  cases b5;rotate_left
  ·have eR:Aj c T ns k [76,77,120,116,98,98] ⟨k0,false,a0,D0⟩=(.mk k (u0:Nat) (u1:Nat) 0 [u3,u4],(An c ⟨k5,true,a5,D5⟩ 2).2):=by simp only[Aj,Ax,Ay,Az,Bq,Cq Bs,Bw,Ba,Bx,Ar,q_km,q_kn,e0,e1,e2,e3,e4];rfl
   rw[eR];rw[Bm];exact N5
  have eR:Aj c T ns k [76,77,120,116,98,98] ⟨k0,false,a0,D0⟩=(.mk k (u0:Nat) (u1:Nat) 0 [u3,u4,u5],(An c ⟨k6,b6,a6,D6⟩ 2).2):=by simp only[Aj,Ax,Ay,Az,Bq,Cq Bs,Bw,Ba,Bx,Ar,q_km,q_kn,e0,e1,e2,e3,e4,e5];rfl
  rw[eR];rw[Bm];exact N6
 refine Hg (r:=.agg true (tvn (Aj c T ns k [76,77,120,116,98,98] ⟨k0,false,a0,D0⟩).1)) ?_ (Ip _);have Ly:6<=140737488355328:=by decide
 have Bd:(ns.reverse.map wdG).length=ns.length:=by simp
 have Bc:ns.length*16<=140737488355328:=by omega
 have Be:ns.length<=140737488355328:=by omega
 have Bf:(ns.length+1)*16<=140737488355328:=by omega
 have Bg:ns.length<=140737488355327:=by omega
 rw[show nmG (u2::ns)=.dsl 1 (ns.reverse.map wdG++[[SV.str (bs u2)]]) by simp[nmG,wdG]] at c4;rw[show nmG (u2::ns)=.dsl 1 (ns.reverse.map wdG++[[SV.str (bs u2)]]) by simp[nmG,wdG]] at c5;rw[show nmG ns=.dsl 1 (ns.reverse.map wdG) from rfl] at *
 generalize ns.reverse.map wdG=R at *
 have Aw:List.take (ns.length+1) (R++[[SV.str (bs u2)]])=R++[[SV.str (bs u2)]]:=q_js (by simp;omega);refine Cl mixed Tryz.func190 tr190 ?_;unfold rdS at c0 c1 c2 c3 c4 c5 |-;simp only[go_sem,seval,Fm];refine Ff 7 (Bk ?_);simp only[go_sem,seval,v76,v77,v98,v116,v120,wq7,wq8,Am,z3,z4,z5,Bd,Bc,Be,Bf,Bg,Aw];refine Ai c0 ?_;simp only[go_sem,seval,v76,v77,v98,v116,v120,wq7,wq8,Am,z3,z4,z5,Bd,Bc,Be,Bf,Bg,Aw];cases b1;rotate_left
 ·refine Bk ?_;have ce:=Cj (nm:=.dsl 1 R) (s:=⟨k1,true,a1,D0⟩) (G:=G++D0) hc 2;have eR:Aj c T ns k [76,77,120,116,98,98] ⟨k0,false,a0,D0⟩=(.mk k (u0:Nat) (0:Nat) 0 [],(An c ⟨k1,true,a1,D0⟩ 2).2):=by simp only[Aj,Ax,Ay,Az,Bq,Cq Bs,Bw,Ba,Bx,Ar,q_km,q_kn,e0];rfl
  rw[eR,Bm,Hv];unfold rdS at ce;simp only[go_sem,seval,v76,v77,v98,v116,v120,wq7,wq8,Am,z3,z4,z5,Bd,Bc,Be,Bf,Bg,Aw];refine Ai ce ?_;simp only[go_sem,seval,v76,v77,v98,v116,v120,wq7,wq8,Am,z3,z4,z5,Bd,Bc,Be,Bf,Bg,Aw,q_h,q_i]
 refine Bk ?_;simp only[go_sem,seval,v76,v77,v98,v116,v120,wq7,wq8,Am,z3,z4,z5,Bd,Bc,Be,Bf,Bg,Aw];refine Ai c1 ?_;simp only[go_sem,seval,v76,v77,v98,v116,v120,wq7,wq8,Am,z3,z4,z5,Bd,Bc,Be,Bf,Bg,Aw];cases b2;rotate_left
 ·refine Bk ?_;have ce:=Cj (nm:=.dsl 1 R) (s:=⟨k2,true,a2,D0⟩) (G:=G++D0) hc 2;have eR:Aj c T ns k [76,77,120,116,98,98] ⟨k0,false,a0,D0⟩=(.mk k (u0:Nat) (u1:Nat) 0 [],(An c ⟨k2,true,a2,D0⟩ 2).2):=by simp only[Aj,Ax,Ay,Az,Bq,Cq Bs,Bw,Ba,Bx,Ar,q_km,q_kn,e0,e1];rfl
  rw[eR,Bm,Hv];unfold rdS at ce;simp only[go_sem,seval,v76,v77,v98,v116,v120,wq7,wq8,Am,z3,z4,z5,Bd,Bc,Be,Bf,Bg,Aw];refine Ai ce ?_;simp only[go_sem,seval,v76,v77,v98,v116,v120,wq7,wq8,Am,z3,z4,z5,Bd,Bc,Be,Bf,Bg,Aw,q_h,q_i]
 refine Bk ?_;simp only[go_sem,seval,v76,v77,v98,v116,v120,wq7,wq8,Am,z3,z4,z5,Bd,Bc,Be,Bf,Bg,Aw];refine Ai c2 ?_;simp only[go_sem,seval,v76,v77,v98,v116,v120,wq7,wq8,Am,z3,z4,z5,Bd,Bc,Be,Bf,Bg,Aw];cases b3;rotate_left
 ·refine Bk ?_;have ce:=Cj (nm:=.dsl 1 R) (s:=⟨k3,true,a3,D0⟩) (G:=G++D0) hc 2;have eR:Aj c T ns k [76,77,120,116,98,98] ⟨k0,false,a0,D0⟩=(.mk k (u0:Nat) (u1:Nat) 0 [],(An c ⟨k3,true,a3,D0⟩ 2).2):=by simp only[Aj,Ax,Ay,Az,Bq,Cq Bs,Bw,Ba,Bx,Ar,q_km,q_kn,e0,e1,e2];rfl
  rw[eR,Bm,Hv];unfold rdS at ce;simp only[go_sem,seval,v76,v77,v98,v116,v120,wq7,wq8,Am,z3,z4,z5,Bd,Bc,Be,Bf,Bg,Aw];refine Ai ce ?_;simp only[go_sem,seval,v76,v77,v98,v116,v120,wq7,wq8,Am,z3,z4,z5,Bd,Bc,Be,Bf,Bg,Aw,q_h,q_i]
 refine Bk ?_;simp only[go_sem,seval,v76,v77,v98,v116,v120,wq7,wq8,Am,z3,z4,z5,Bd,Bc,Be,Bf,Bg,Aw];refine Ai c3 ?_;simp only[go_sem,seval,v76,v77,v98,v116,v120,wq7,wq8,Am,z3,z4,z5,Bd,Bc,Be,Bf,Bg,Aw];cases b4;rotate_left
 ·refine Bk ?_;have ce:=Cj (nm:=.dsl 1 R) (s:=⟨k4,true,a4,D4⟩) (G:=G++D4) hc 2;have eR:Aj c T ns k [76,77,120,116,98,98] ⟨k0,false,a0,D0⟩=(.mk k (u0:Nat) (u1:Nat) 0 [u3],(An c ⟨k4,true,a4,D4⟩ 2).2):=by simp only[Aj,Ax,Ay,Az,Bq,Cq Bs,Bw,Ba,Bx,Ar,q_km,q_kn,e0,e1,e2,e3];rfl
  rw[eR,Bm,Ds];unfold rdS at ce;simp only[go_sem,seval,v76,v77,v98,v116,v120,wq7,wq8,Am,z3,z4,z5,Bd,Bc,Be,Bf,Bg,Aw];refine Ai ce ?_;simp only[go_sem,seval,v76,v77,v98,v116,v120,wq7,wq8,Am,z3,z4,z5,Bd,Bc,Be,Bf,Bg,Aw,q_h,q_i]
 refine Bk ?_;simp only[go_sem,seval,v76,v77,v98,v116,v120,wq7,wq8,Am,z3,z4,z5,Bd,Bc,Be,Bf,Bg,Aw];refine Ai c4 ?_;simp only[go_sem,seval,v76,v77,v98,v116,v120,wq7,wq8,Am,z3,z4,z5,Bd,Bc,Be,Bf,Bg,Aw];cases b5;rotate_left
 ·refine Bk ?_;have ce:=Cj (nm:=.dsl 1 R) (s:=⟨k5,true,a5,D5⟩) (G:=G++D5) hc 2;have eR:Aj c T ns k [76,77,120,116,98,98] ⟨k0,false,a0,D0⟩=(.mk k (u0:Nat) (u1:Nat) 0 [u3,u4],(An c ⟨k5,true,a5,D5⟩ 2).2):=by simp only[Aj,Ax,Ay,Az,Bq,Cq Bs,Bw,Ba,Bx,Ar,q_km,q_kn,e0,e1,e2,e3,e4];rfl
  rw[eR,Bm,Ds];unfold rdS at ce;simp only[go_sem,seval,v76,v77,v98,v116,v120,wq7,wq8,Am,z3,z4,z5,Bd,Bc,Be,Bf,Bg,Aw];refine Ai ce ?_;simp only[go_sem,seval,v76,v77,v98,v116,v120,wq7,wq8,Am,z3,z4,z5,Bd,Bc,Be,Bf,Bg,Aw,q_h,q_i]
 refine Bk ?_;simp only[go_sem,seval,v76,v77,v98,v116,v120,wq7,wq8,Am,z3,z4,z5,Bd,Bc,Be,Bf,Bg,Aw];refine Ai c5 ?_;simp only[go_sem,seval,v76,v77,v98,v116,v120,wq7,wq8,Am,z3,z4,z5,Bd,Bc,Be,Bf,Bg,Aw];refine Bk ?_;have ce:=Cj (nm:=.dsl 1 R) (s:=⟨k6,b6,a6,D6⟩) (G:=G++D6) hc 2;have eR:Aj c T ns k [76,77,120,116,98,98] ⟨k0,false,a0,D0⟩=(.mk k (u0:Nat) (u1:Nat) 0 [u3,u4,u5],(An c ⟨k6,b6,a6,D6⟩ 2).2):=by simp only[Aj,Ax,Ay,Az,Bq,Cq Bs,Bw,Ba,Bx,Ar,q_km,q_kn,e0,e1,e2,e3,e4,e5];rfl
 rw[eR,Bm,Ds];unfold rdS at ce;simp only[go_sem,seval,v76,v77,v98,v116,v120,wq7,wq8,Am,z3,z4,z5,Bd,Bc,Be,Bf,Bg,Aw];refine Ai ce ?_;simp only[go_sem,seval,v76,v77,v98,v116,v120,wq7,wq8,Am,z3,z4,z5,Bd,Bc,Be,Bf,Bg,Aw,q_h,q_i]
def Ak7(hc:Fz c)(hT:TCG c T f)(Cc:ns.length+3*f+2<100000000000)(hk:k<=12)(hb:s.bad=false)(hN:NGr s.D)(hG:NGr G)(hs:c.L.length<s.k+f):LCG c T ns k [76,77,120,116,98,116] s G:=by
 obtain⟨k0,b0,a0,D0⟩:=s;simp only at hs hN hb;subst hb;have Ar:ofR k=1:=by unfold ofR;rw[if_pos hk]
 have Fm:(k:Int)<=12:=by omega
 have Bs:k≠23:=by omega
 have Am:((k:Int)==23)=false:=by rw[beq_eq_false_iff_ne];omega
 have c0:=Li (nm:=nmG ns) (G:=G++D0) hc (c.L.length+1) ⟨k0,false,a0,D0⟩ (q_ja _) (by simp only;omega) (by omega);have d0:=(Ll (c:=c) (c.L.length+1) ⟨k0,false,a0,D0⟩).symm;have m0:=Kw (c:=c) (c.L.length+1) ⟨k0,false,a0,D0⟩;generalize e0:Cy c (c.L.length+1) ⟨k0,false,a0,D0⟩=q at c0 d0 m0;obtain⟨u0,k1,b1,a1,E1⟩:=q;simp only at c0 d0 m0;subst d0;have c1:=Li (nm:=nmG ns) (G:=G++D0) hc (c.L.length+1) ⟨k1,false,a1,D0⟩ (q_ja _) (by simp only;omega) (by omega);have d1:=(Ll (c:=c) (c.L.length+1) ⟨k1,false,a1,D0⟩).symm;have m1:=Kw (c:=c) (c.L.length+1) ⟨k1,false,a1,D0⟩;generalize e1:Cy c (c.L.length+1) ⟨k1,false,a1,D0⟩=q at c1 d1 m1;obtain⟨u1,k2,b2,a2,E2⟩:=q;simp only at c1 d1 m1;subst d1;have c2:=Cj (nm:=nmG ns) (s:=⟨k2,false,a2,D0⟩) (G:=G++D0) hc 3;have d2:=(Bm (c:=c) (s:=⟨k2,false,a2,D0⟩) 3).symm;have m2:=Cp (c:=c) (s:=⟨k2,false,a2,D0⟩) 3;generalize e2:An c ⟨k2,false,a2,D0⟩ 3=q at c2 d2 m2;obtain⟨u2,k3,b3,a3,E3⟩:=q;simp only at c2 d2 m2;subst d2;have t3:=hT ns 1 ⟨k3,false,a3,D0⟩ G (by first|omega|(simp only;omega)) (by first|omega|(simp at Cc |-;omega)) (by decide) hN hG;generalize e3:T ns 1 ⟨k3,false,a3,D0⟩=q at t3;obtain⟨u3,k4,b4,a4,D4⟩:=q;obtain⟨c3,m3,N4⟩:=t3;simp only at c3 m3 N4;have z3:=Bz u3;have t4:=hT (u2::ns) 1 ⟨k4,false,a4,D4⟩ G (by first|omega|(simp only;omega)) (by first|omega|(simp at Cc |-;omega)) (by decide) N4 hG;generalize e4:T (u2::ns) 1 ⟨k4,false,a4,D4⟩=q at t4;obtain⟨u4,k5,b5,a5,D5⟩:=q;obtain⟨c4,m4,N5⟩:=t4;simp only at c4 m4 N5;have z4:=Bz u4;have t5:=hT ns 1 ⟨k5,false,a5,D5⟩ G (by first|omega|(simp only;omega)) (by first|omega|(simp at Cc |-;omega)) (by decide) N5 hG;generalize e5:T ns 1 ⟨k5,false,a5,D5⟩=q at t5;obtain⟨u5,k6,b6,a6,D6⟩:=q;obtain⟨c5,m5,N6⟩:=t5;simp only at c5 m5 N6;have z5:=Bz u5;refine⟨?_,?_,?_⟩;rotate_left
 ·cases b1;rotate_left
  ·have eR:Aj c T ns k [76,77,120,116,98,116] ⟨k0,false,a0,D0⟩=(.mk k (u0:Nat) (0:Nat) 0 [],(An c ⟨k1,true,a1,D0⟩ 2).2):=by simp only[Aj,Ax,Ay,Az,Bq,Cq Bs,Bw,Ba,Bx,Ar,q_km,q_kn,e0];rfl
   rw[eR];refine q_ko ?_ (Cp 2);first|omega|(simp only;omega)
  cases b2;rotate_left
  ·have eR:Aj c T ns k [76,77,120,116,98,116] ⟨k0,false,a0,D0⟩=(.mk k (u0:Nat) (u1:Nat) 0 [],(An c ⟨k2,true,a2,D0⟩ 2).2):=by simp only[Aj,Ax,Ay,Az,Bq,Cq Bs,Bw,Ba,Bx,Ar,q_km,q_kn,e0,e1];rfl
   rw[eR];refine q_ko ?_ (Cp 2);first|omega|(simp only;omega)
  cases b3;rotate_left
  ·have eR:Aj c T ns k [76,77,120,116,98,116] ⟨k0,false,a0,D0⟩=(.mk k (u0:Nat) (u1:Nat) 0 [],(An c ⟨k3,true,a3,D0⟩ 2).2):=by simp only[Aj,Ax,Ay,Az,Bq,Cq Bs,Bw,Ba,Bx,Ar,q_km,q_kn,e0,e1,e2];rfl
   rw[eR];refine q_ko ?_ (Cp 2);first|omega|(simp only;omega)
  cases b4;rotate_left
  ·have eR:Aj c T ns k [76,77,120,116,98,116] ⟨k0,false,a0,D0⟩=(.mk k (u0:Nat) (u1:Nat) 0 [u3],(An c ⟨k4,true,a4,D4⟩ 2).2):=by simp only[Aj,Ax,Ay,Az,Bq,Cq Bs,Bw,Ba,Bx,Ar,q_km,q_kn,e0,e1,e2,e3];rfl
   rw[eR];refine q_ko ?_ (Cp 2);first|omega|(simp only;omega)
  cases b5;rotate_left
  ·have eR:Aj c T ns k [76,77,120,116,98,116] ⟨k0,false,a0,D0⟩=(.mk k (u0:Nat) (u1:Nat) 0 [u3,u4],(An c ⟨k5,true,a5,D5⟩ 2).2):=by simp only[Aj,Ax,Ay,Az,Bq,Cq Bs,Bw,Ba,Bx,Ar,q_km,q_kn,e0,e1,e2,e3,e4];rfl
   rw[eR];refine q_ko ?_ (Cp 2);first|omega|(simp only;omega)
  have eR:Aj c T ns k [76,77,120,116,98,116] ⟨k0,false,a0,D0⟩=(.mk k (u0:Nat) (u1:Nat) 0 [u3,u4,u5],(An c ⟨k6,b6,a6,D6⟩ 2).2):=by simp only[Aj,Ax,Ay,Az,Bq,Cq Bs,Bw,Ba,Bx,Ar,q_km,q_kn,e0,e1,e2,e3,e4,e5];rfl
  rw[eR];refine q_ko ?_ (Cp 2);first|omega|(simp only;omega)
 ·cases b1;rotate_left
  ·have eR:Aj c T ns k [76,77,120,116,98,116] ⟨k0,false,a0,D0⟩=(.mk k (u0:Nat) (0:Nat) 0 [],(An c ⟨k1,true,a1,D0⟩ 2).2):=by simp only[Aj,Ax,Ay,Az,Bq,Cq Bs,Bw,Ba,Bx,Ar,q_km,q_kn,e0];rfl
   rw[eR];rw[Bm];exact hN
  cases b2;rotate_left
  ·have eR:Aj c T ns k [76,77,120,116,98,116] ⟨k0,false,a0,D0⟩=(.mk k (u0:Nat) (u1:Nat) 0 [],(An c ⟨k2,true,a2,D0⟩ 2).2):=by simp only[Aj,Ax,Ay,Az,Bq,Cq Bs,Bw,Ba,Bx,Ar,q_km,q_kn,e0,e1];rfl
   rw[eR];rw[Bm];exact hN
  cases b3;rotate_left
  ·have eR:Aj c T ns k [76,77,120,116,98,116] ⟨k0,false,a0,D0⟩=(.mk k (u0:Nat) (u1:Nat) 0 [],(An c ⟨k3,true,a3,D0⟩ 2).2):=by simp only[Aj,Ax,Ay,Az,Bq,Cq Bs,Bw,Ba,Bx,Ar,q_km,q_kn,e0,e1,e2];rfl
   rw[eR];rw[Bm];exact hN
  cases b4;rotate_left
  ·have eR:Aj c T ns k [76,77,120,116,98,116] ⟨k0,false,a0,D0⟩=(.mk k (u0:Nat) (u1:Nat) 0 [u3],(An c ⟨k4,true,a4,D4⟩ 2).2):=by simp only[Aj,Ax,Ay,Az,Bq,Cq Bs,Bw,Ba,Bx,Ar,q_km,q_kn,e0,e1,e2,e3];rfl
   rw[eR];rw[Bm];exact N4
  cases b5;rotate_left
  ·have eR:Aj c T ns k [76,77,120,116,98,116] ⟨k0,false,a0,D0⟩=(.mk k (u0:Nat) (u1:Nat) 0 [u3,u4],(An c ⟨k5,true,a5,D5⟩ 2).2):=by simp only[Aj,Ax,Ay,Az,Bq,Cq Bs,Bw,Ba,Bx,Ar,q_km,q_kn,e0,e1,e2,e3,e4];rfl
   rw[eR];rw[Bm];exact N5
  have eR:Aj c T ns k [76,77,120,116,98,116] ⟨k0,false,a0,D0⟩=(.mk k (u0:Nat) (u1:Nat) 0 [u3,u4,u5],(An c ⟨k6,b6,a6,D6⟩ 2).2):=by simp only[Aj,Ax,Ay,Az,Bq,Cq Bs,Bw,Ba,Bx,Ar,q_km,q_kn,e0,e1,e2,e3,e4,e5];rfl
  rw[eR];rw[Bm];exact N6
 refine Hg (r:=.agg true (tvn (Aj c T ns k [76,77,120,116,98,116] ⟨k0,false,a0,D0⟩).1)) ?_ (Ip _);have Ly:6<=140737488355328:=by decide
 have Bd:(ns.reverse.map wdG).length=ns.length:=by simp
 have Bc:ns.length*16<=140737488355328:=by omega
 have Be:ns.length<=140737488355328:=by omega
 have Bf:(ns.length+1)*16<=140737488355328:=by omega
 have Bg:ns.length<=140737488355327:=by omega
 rw[show nmG (u2::ns)=.dsl 1 (ns.reverse.map wdG++[[SV.str (bs u2)]]) by simp[nmG,wdG]] at c4;rw[show nmG ns=.dsl 1 (ns.reverse.map wdG) from rfl] at *
 generalize ns.reverse.map wdG=R at *
 have Aw:List.take (ns.length+1) (R++[[SV.str (bs u2)]])=R++[[SV.str (bs u2)]]:=q_js (by simp;omega);refine Cl mixed Tryz.func190 tr190 ?_;unfold rdS at c0 c1 c2 c3 c4 c5 |-;simp only[go_sem,seval,Fm];refine Ff 7 (Bk ?_);simp only[go_sem,seval,v76,v77,v98,v116,v120,wq7,wq8,Am,z3,z4,z5,Bd,Bc,Be,Bf,Bg,Aw];refine Ai c0 ?_;simp only[go_sem,seval,v76,v77,v98,v116,v120,wq7,wq8,Am,z3,z4,z5,Bd,Bc,Be,Bf,Bg,Aw];cases b1;rotate_left
 ·refine Bk ?_;have ce:=Cj (nm:=.dsl 1 R) (s:=⟨k1,true,a1,D0⟩) (G:=G++D0) hc 2;have eR:Aj c T ns k [76,77,120,116,98,116] ⟨k0,false,a0,D0⟩=(.mk k (u0:Nat) (0:Nat) 0 [],(An c ⟨k1,true,a1,D0⟩ 2).2):=by simp only[Aj,Ax,Ay,Az,Bq,Cq Bs,Bw,Ba,Bx,Ar,q_km,q_kn,e0];rfl
  rw[eR,Bm,Hv];unfold rdS at ce;simp only[go_sem,seval,v76,v77,v98,v116,v120,wq7,wq8,Am,z3,z4,z5,Bd,Bc,Be,Bf,Bg,Aw];refine Ai ce ?_;simp only[go_sem,seval,v76,v77,v98,v116,v120,wq7,wq8,Am,z3,z4,z5,Bd,Bc,Be,Bf,Bg,Aw,q_h,q_i]
 refine Bk ?_;simp only[go_sem,seval,v76,v77,v98,v116,v120,wq7,wq8,Am,z3,z4,z5,Bd,Bc,Be,Bf,Bg,Aw];refine Ai c1 ?_;simp only[go_sem,seval,v76,v77,v98,v116,v120,wq7,wq8,Am,z3,z4,z5,Bd,Bc,Be,Bf,Bg,Aw];cases b2;rotate_left
 ·refine Bk ?_;have ce:=Cj (nm:=.dsl 1 R) (s:=⟨k2,true,a2,D0⟩) (G:=G++D0) hc 2;have eR:Aj c T ns k [76,77,120,116,98,116] ⟨k0,false,a0,D0⟩=(.mk k (u0:Nat) (u1:Nat) 0 [],(An c ⟨k2,true,a2,D0⟩ 2).2):=by simp only[Aj,Ax,Ay,Az,Bq,Cq Bs,Bw,Ba,Bx,Ar,q_km,q_kn,e0,e1];rfl
  rw[eR,Bm,Hv];unfold rdS at ce;simp only[go_sem,seval,v76,v77,v98,v116,v120,wq7,wq8,Am,z3,z4,z5,Bd,Bc,Be,Bf,Bg,Aw];refine Ai ce ?_;simp only[go_sem,seval,v76,v77,v98,v116,v120,wq7,wq8,Am,z3,z4,z5,Bd,Bc,Be,Bf,Bg,Aw,q_h,q_i]
 refine Bk ?_;simp only[go_sem,seval,v76,v77,v98,v116,v120,wq7,wq8,Am,z3,z4,z5,Bd,Bc,Be,Bf,Bg,Aw];refine Ai c2 ?_;simp only[go_sem,seval,v76,v77,v98,v116,v120,wq7,wq8,Am,z3,z4,z5,Bd,Bc,Be,Bf,Bg,Aw];cases b3;rotate_left
 ·refine Bk ?_;have ce:=Cj (nm:=.dsl 1 R) (s:=⟨k3,true,a3,D0⟩) (G:=G++D0) hc 2;have eR:Aj c T ns k [76,77,120,116,98,116] ⟨k0,false,a0,D0⟩=(.mk k (u0:Nat) (u1:Nat) 0 [],(An c ⟨k3,true,a3,D0⟩ 2).2):=by simp only[Aj,Ax,Ay,Az,Bq,Cq Bs,Bw,Ba,Bx,Ar,q_km,q_kn,e0,e1,e2];rfl
  rw[eR,Bm,Hv];unfold rdS at ce;simp only[go_sem,seval,v76,v77,v98,v116,v120,wq7,wq8,Am,z3,z4,z5,Bd,Bc,Be,Bf,Bg,Aw];refine Ai ce ?_;simp only[go_sem,seval,v76,v77,v98,v116,v120,wq7,wq8,Am,z3,z4,z5,Bd,Bc,Be,Bf,Bg,Aw,q_h,q_i]
 refine Bk ?_;simp only[go_sem,seval,v76,v77,v98,v116,v120,wq7,wq8,Am,z3,z4,z5,Bd,Bc,Be,Bf,Bg,Aw];refine Ai c3 ?_;simp only[go_sem,seval,v76,v77,v98,v116,v120,wq7,wq8,Am,z3,z4,z5,Bd,Bc,Be,Bf,Bg,Aw];cases b4;rotate_left
 ·refine Bk ?_;have ce:=Cj (nm:=.dsl 1 R) (s:=⟨k4,true,a4,D4⟩) (G:=G++D4) hc 2;have eR:Aj c T ns k [76,77,120,116,98,116] ⟨k0,false,a0,D0⟩=(.mk k (u0:Nat) (u1:Nat) 0 [u3],(An c ⟨k4,true,a4,D4⟩ 2).2):=by simp only[Aj,Ax,Ay,Az,Bq,Cq Bs,Bw,Ba,Bx,Ar,q_km,q_kn,e0,e1,e2,e3];rfl
  rw[eR,Bm,Ds];unfold rdS at ce;simp only[go_sem,seval,v76,v77,v98,v116,v120,wq7,wq8,Am,z3,z4,z5,Bd,Bc,Be,Bf,Bg,Aw];refine Ai ce ?_;simp only[go_sem,seval,v76,v77,v98,v116,v120,wq7,wq8,Am,z3,z4,z5,Bd,Bc,Be,Bf,Bg,Aw,q_h,q_i]
 refine Bk ?_;simp only[go_sem,seval,v76,v77,v98,v116,v120,wq7,wq8,Am,z3,z4,z5,Bd,Bc,Be,Bf,Bg,Aw];refine Ai c4 ?_;simp only[go_sem,seval,v76,v77,v98,v116,v120,wq7,wq8,Am,z3,z4,z5,Bd,Bc,Be,Bf,Bg,Aw];cases b5;rotate_left
 ·refine Bk ?_;have ce:=Cj (nm:=.dsl 1 R) (s:=⟨k5,true,a5,D5⟩) (G:=G++D5) hc 2;have eR:Aj c T ns k [76,77,120,116,98,116] ⟨k0,false,a0,D0⟩=(.mk k (u0:Nat) (u1:Nat) 0 [u3,u4],(An c ⟨k5,true,a5,D5⟩ 2).2):=by simp only[Aj,Ax,Ay,Az,Bq,Cq Bs,Bw,Ba,Bx,Ar,q_km,q_kn,e0,e1,e2,e3,e4];rfl
  rw[eR,Bm,Ds];unfold rdS at ce;simp only[go_sem,seval,v76,v77,v98,v116,v120,wq7,wq8,Am,z3,z4,z5,Bd,Bc,Be,Bf,Bg,Aw];refine Ai ce ?_;simp only[go_sem,seval,v76,v77,v98,v116,v120,wq7,wq8,Am,z3,z4,z5,Bd,Bc,Be,Bf,Bg,Aw,q_h,q_i]
 refine Bk ?_;simp only[go_sem,seval,v76,v77,v98,v116,v120,wq7,wq8,Am,z3,z4,z5,Bd,Bc,Be,Bf,Bg,Aw];refine Ai c5 ?_;simp only[go_sem,seval,v76,v77,v98,v116,v120,wq7,wq8,Am,z3,z4,z5,Bd,Bc,Be,Bf,Bg,Aw];refine Bk ?_;have ce:=Cj (nm:=.dsl 1 R) (s:=⟨k6,b6,a6,D6⟩) (G:=G++D6) hc 2;have eR:Aj c T ns k [76,77,120,116,98,116] ⟨k0,false,a0,D0⟩=(.mk k (u0:Nat) (u1:Nat) 0 [u3,u4,u5],(An c ⟨k6,b6,a6,D6⟩ 2).2):=by simp only[Aj,Ax,Ay,Az,Bq,Cq Bs,Bw,Ba,Bx,Ar,q_km,q_kn,e0,e1,e2,e3,e4,e5];rfl
 rw[eR,Bm,Ds];unfold rdS at ce;simp only[go_sem,seval,v76,v77,v98,v116,v120,wq7,wq8,Am,z3,z4,z5,Bd,Bc,Be,Bf,Bg,Aw];refine Ai ce ?_;simp only[go_sem,seval,v76,v77,v98,v116,v120,wq7,wq8,Am,z3,z4,z5,Bd,Bc,Be,Bf,Bg,Aw,q_h,q_i]
end
end Go.Proofs.YtgfehkhcmnfpaaaGreatDoor.Abs
