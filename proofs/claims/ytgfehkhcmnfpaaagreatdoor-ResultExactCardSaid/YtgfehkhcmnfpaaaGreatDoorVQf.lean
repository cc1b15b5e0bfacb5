import Derived.Test.YtgfehkhcmnfpaaaGreatDoorVOh
import Derived.Test.YtgfehkhcmnfpaaaGreatDoorVOj
import Derived.Test.YtgfehkhcmnfpaaaGreatDoorVAfC
set_option linter.all false
set_option maxRecDepth 20000
set_option maxHeartbeats 4000000
namespace Go.Proofs.YtgfehkhcmnfpaaaGreatDoor.Abs
open Go Go.RowKit Go.Proofs.YtgfehkhcmnfpaaaGreatDoor
section
variable{c:RC}{T:TR}{f:Nat}{ns:List By}{k:Nat}{s:RS}{G:GV}
def Ak8(hc:Fz c)(hT:TCG c T f)(Cc:ns.length+3*f+2<100000000000)(hk:k<=12)(hb:s.bad=false)(hN:NGr s.D)(hG:NGr G)(hs:c.L.length<s.k+f):LCG c T ns k [76,77,120,116,98,116,116] s G:=by
 obtain⟨k0,b0,a0,D0⟩:=s;simp only at hs hN hb;subst hb;have Ar:ofR k=1:=by unfold ofR;rw[if_pos hk]
 have Fm:(k:Int)<=12:=by omega
 have Bs:k≠23:=by omega
 have Am:((k:Int)==23)=false:=by rw[beq_eq_false_iff_ne];omega
 have c0:=Li (nm:=nmG ns) (G:=G++D0) hc (c.L.length+1) ⟨k0,false,a0,D0⟩ (q_ja _) (by simp only;omega) (by omega);have d0:=(Ll (c:=c) (c.L.length+1) ⟨k0,false,a0,D0⟩).symm;have m0:=Kw (c:=c) (c.L.length+1) ⟨k0,false,a0,D0⟩;generalize e0:Cy c (c.L.length+1) ⟨k0,false,a0,D0⟩=q at c0 d0 m0;obtain⟨u0,k1,b1,a1,E1⟩:=q;simp only at c0 d0 m0;subst d0;have c1:=Li (nm:=nmG ns) (G:=G++D0) hc (c.L.length+1) ⟨k1,false,a1,D0⟩ (q_ja _) (by simp only;omega) (by omega);have d1:=(Ll (c:=c) (c.L.length+1) ⟨k1,false,a1,D0⟩).symm;have m1:=Kw (c:=c) (c.L.length+1) ⟨k1,false,a1,D0⟩;generalize e1:Cy c (c.L.length+1) ⟨k1,false,a1,D0⟩=q at c1 d1 m1;obtain⟨u1,k2,b2,a2,E2⟩:=q;simp only at c1 d1 m1;subst d1;have c2:=Cj (nm:=nmG ns) (s:=⟨k2,false,a2,D0⟩) (G:=G++D0) hc 3;have d2:=(Bm (c:=c) (s:=⟨k2,false,a2,D0⟩) 3).symm;have m2:=Cp (c:=c) (s:=⟨k2,false,a2,D0⟩) 3;generalize e2:An c ⟨k2,false,a2,D0⟩ 3=q at c2 d2 m2;obtain⟨u2,k3,b3,a3,E3⟩:=q;simp only at c2 d2 m2;subst d2;have t3:=hT ns 1 ⟨k3,false,a3,D0⟩ G (by first|omega|(simp only;omega)) (by first|omega|(simp at Cc |-;omega)) (by decide) hN hG;generalize e3:T ns 1 ⟨k3,false,a3,D0⟩=q at t3;obtain⟨u3,k4,b4,a4,D4⟩:=q;obtain⟨c3,m3,N4⟩:=t3;simp only at c3 m3 N4;have z3:=Bz u3;have t4:=hT (u2::ns) 1 ⟨k4,false,a4,D4⟩ G (by first|omega|(simp only;omega)) (by first|omega|(simp at Cc |-;omega)) (by decide) N4 hG;generalize e4:T (u2::ns) 1 ⟨k4,false,a4,D4⟩=q at t4;obtain⟨u4,k5,b5,a5,D5⟩:=q;obtain⟨c4,m4,N5⟩:=t4;simp only at c4 m4 N5;have z4:=Bz u4;have t5:=hT ns 1 ⟨k5,false,a5,D5⟩ G (by first|omega|(simp only;omega)) (by first|omega|(simp at Cc |-;omega)) (by decide) N5 hG;generalize e5:T ns 1 ⟨k5,false,a5,D5⟩=q at t5;obtain⟨u5,k6,b6,a6,D6⟩:=q;obtain⟨c5,m5,N6⟩:=t5;simp only at c5 m5 N6;have z5:=Bz u5;have t6:=hT ns 1 ⟨k6,false,a6,D6⟩ G (by first|omega|(simp only;omega)) (by first|omega|(simp at Cc |-;omega)) (by decide) N6 hG;generalize e6:T ns 1 ⟨k6,false,a6,D6⟩=q at t6;obtain⟨u6,k7,b7,a7,D7⟩:=q;obtain⟨c6,m6,N7⟩:=t6;simp only at c6 m6 N7;have z6:=Bz u6;refine⟨?_,?_,?_⟩;rotate_left
 ·cases b1;rotate_left
  ·have eR:Aj c T ns k [76,77,120,116,98,116,116] ⟨k0,false,a0,D0⟩=(.mk k (u0:Nat) (0:Nat) 0 [],(An c ⟨k1,true,a1,D0⟩ 2).2):=by simp only[Aj,Ax,Ay,Az,Bq,Cq Bs,Bw,Ba,Bx,Ar,q_km,q_kn,e0];rfl
   rw[eR];refine q_ko ?_ (Cp 2);first|omega|(simp only;omega)
  cases b2;rotate_left
  ·have eR:Aj c T ns k [76,77,120,116,98,116,116] ⟨k0,false,a0,D0⟩=(.mk k (u0:Nat) (u1:Nat) 0 [],(An c ⟨k2,true,a2,D0⟩ 2).2):=by simp only[Aj,Ax,Ay,Az,Bq,Cq Bs,Bw,Ba,Bx,Ar,q_km,q_kn,e0,e1];rfl
   rw[eR];refine q_ko ?_ (Cp 2);first|omega|(simp only;omega)
  cases b3;rotate_left
  ·have eR:Aj c T ns k [76,77,120,116,98,116,116] ⟨k0,false,a0,D0⟩=(.mk k (u0:Nat) (u1:Nat) 0 [],(An c ⟨k3,true,a3,D0⟩ 2).2):=by simp only[Aj,Ax,Ay,Az,Bq,Cq Bs,Bw,Ba,Bx,Ar,q_km,q_kn,e0,e1,e2];rfl
   rw[eR];refine q_ko ?_ (Cp 2);first|omega|(simp only;omega)
  cases b4;rotate_left
  ·have eR:Aj c T ns k [76,77,120,116,98,116,116] ⟨k0,false,a0,D0⟩=(.mk k (u0:Nat) (u1:Nat) 0 [u3],(An c ⟨k4,true,a4,D4⟩ 2).2):=by simp only[Aj,Ax,Ay,Az,Bq,Cq Bs,Bw,Ba,Bx,Ar,q_km,q_kn,e0,e1,e2,e3];rfl
   rw[eR];refine q_ko ?_ (Cp 2);first|omega|(simp only;omega)
  cases b5;rotate_left
  ·have eR:Aj c T ns k [76,77,120,116,98,116,116] ⟨k0,false,a0,D0⟩=(.mk k (u0:Nat) (u1:Nat) 0 [u3,u4],(An c ⟨k5,true,a5,D5⟩ 2).2):=by simp only[Aj,Ax,Ay,Az,Bq,Cq Bs,Bw,Ba,Bx,Ar,q_km,q_kn,e0,e1,e2,e3,e4];rfl
   rw[eR];refine q_ko ?_ (Cp 2);first|omega|(simp only;omega)
  cases b6;rotate_left
  ·have eR:Aj c T ns k [76,77,120,116,98,116,116] ⟨k0,false,a0,D0⟩=(.mk k (u0:Nat) (u1:Nat) 0 [u3,u4,u5],(An c ⟨k6,true,a6,D6⟩ 2).2):=by simp only[Aj,Ax,Ay,Az,Bq,Cq Bs,Bw,Ba,Bx,Ar,q_km,q_kn,e0,e1,e2,e3,e4,e5];rfl
   rw[eR];refine q_ko ?_ (Cp 2);first|omega|(simp only;omega)
  have eR:Aj c T ns k [76,77,120,116,98,116,116] ⟨k0,false,a0,D0⟩=(.mk k (u0:Nat) (u1:Nat) 0 [u3,u4,u5,u6],(An c ⟨k7,b7,a7,D7⟩ 2).2):=by simp only[Aj,Ax,Ay,Az,Bq,Cq Bs,Bw,Ba,Bx,Ar,q_km,q_kn,e0,e1,e2,e3,e4,e5,e6];rfl
  rw[eR];refine q_ko ?_ (Cp 2);first|omega|(simp only;omega)
 ·cases b1;rotate_left
  ·have eR:Aj c T ns k [76,77,120,116,98,116,116] ⟨k0,false,a0,D0⟩=(.mk k (u0:Nat) (0:Nat) 0 [],(An c ⟨k1,true,a1,D0⟩ 2).2):=by simp only[Aj,Ax,Ay,Az,Bq,Cq Bs,Bw,Ba,Bx,Ar,q_km,q_kn,e0];rfl
   rw[eR];rw[Bm];exact hN
  cases b2;rotate_left
  ·have eR:Aj c T ns k [76,77,120,116,98,116,116] ⟨k0,false,a0,D0⟩=(.mk k (u0:Nat) (u1:Nat) 0 [],(An c ⟨k2,true,a2,D0⟩ 2).2):=by simp only[Aj,Ax,Ay,Az,Bq,Cq Bs,Bw,Ba,Bx,Ar,q_km,q_kn,e0,e1];rfl
   rw[eR];rw[Bm];exact hN
  cases b3;rotate_left
  ·have eR:Aj c T ns k [76,77,120,116,98,116,116] ⟨k0,false,a0,D0⟩=(.mk k (u0:Nat) (u1:Nat) 0 [],(An c ⟨k3,true,a3,D0⟩ 2).2):=by simp only[Aj,Ax,Ay,Az,Bq,Cq Bs,Bw,Ba,Bx,Ar,q_km,q_kn,e0,e1,e2];rfl
   rw[eR];rw[Bm];exact hN
  cases b4;rotate_left
  ·have eR:Aj c T ns k [76,77,120,116,98,116,116] ⟨k0,false,a0,D0⟩=(.mk k (u0:Nat) (u1:Nat) 0 [u3],(An c ⟨k4,true,a4,D4⟩ 2).2):=by simp only[Aj,Ax,Ay,Az,Bq,Cq Bs,Bw,Ba,Bx,Ar,q_km,q_kn,e0,e1,e2,e3];rfl
   rw[eR];rw[Bm];exact N4
  cases b5;rotate_left
  ·have eR:Aj c T ns k [76,77,120,116,98,116,116] ⟨k0,false,a0,D0⟩=(.mk k (u0:Nat) (u1:Nat) 0 [u3,u4],(An c ⟨k5,true,a5,D5⟩ 2).2):=by simp only[Aj,Ax,Ay,Az,Bq,Cq Bs,Bw,Ba,Bx,Ar,q_km,q_kn,e0,e1,e2,e3,e4];rfl
   rw[eR];rw[Bm];exact N5
  cases b6;rotate_left
  ·have eR:Aj c T ns k [76,77,120,116,98,116,116] ⟨k0,false,a0,D0⟩=(.mk k (u0:Nat) (u1:Nat) 0 [u3,u4,u5],(An c ⟨k6,true,a6,D6⟩ 2).2):=by simp only[Aj,Ax,Ay,Az,Bq,Cq Bs,Bw,Ba,Bx,Ar,q_km,q_kn,e0,e1,e2,e3,e4,e5];rfl
   rw[eR];rw[Bm];exact N6
  have eR:Aj c T ns k [76,77,120,116,98,116,116] ⟨k0,false,a0,D0⟩=(.mk k (u0:Nat) (u1:Nat) 0 [u3,u4,u5,u6],(An c ⟨k7,b7,a7,D7⟩ 2).2):=by simp only[Aj,Ax,Ay,Az,Bq,Cq Bs,Bw,Ba,Bx,Ar,q_km,q_kn,e0,e1,e2,e3,e4,e5,e6];rfl
  rw[eR];rw[Bm];exact N7
 refine Hg (r:=.agg true (tvn (Aj c T ns k [76,77,120,116,98,116,116] ⟨k0,false,a0,D0⟩).1)) ?_ (Ip _);have Ly:7<=140737488355328:=by decide
 have Bd:(ns.reverse.map wdG).length=ns.length:=by simp
 have Bc:ns.length*16<=140737488355328:=by omega
 have Be:ns.length<=140737488355328:=by omega
 have Bf:(ns.length+1)*16<=140737488355328:=by omega
 have Bg:ns.length<=140737488355327:=by omega
 rw[show nmG (u2::ns)=.dsl 1 (ns.reverse.map wdG++[[SV.str (bs u2)]]) by simp[nmG,wdG]] at c4;rw[show nmG ns=.dsl 1 (ns.reverse.map wdG) from rfl] at *
 generalize ns.reverse.map wdG=R at *
 have Aw:List.take (ns.length+1) (R++[[SV.str (bs u2)]])=R++[[SV.str (bs u2)]]:=q_js (by simp;omega);refine Cl mixed Tryz.func190 tr190 ?_;unfold rdS at c0 c1 c2 c3 c4 c5 c6 |-;simp only[go_sem,seval,Fm];refine Ff 8 (Bk ?_);simp only[go_sem,seval,v76,v77,v98,v116,v120,wq7,wq8,Am,z3,z4,z5,z6,Bd,Bc,Be,Bf,Bg,Aw];refine Ai c0 ?_;simp only[go_sem,seval,v76,v77,v98,v116,v120,wq7,wq8,Am,z3,z4,z5,z6,Bd,Bc,Be,Bf,Bg,Aw];cases b1;rotate_left
 ·refine Bk ?_;have ce:=Cj (nm:=.dsl 1 R) (s:=⟨k1,true,a1,D0⟩) (G:=G++D0) hc 2;have eR:Aj c T ns k [76,77,120,116,98,116,116] ⟨k0,false,a0,D0⟩=(.mk k (u0:Nat) (0:Nat) 0 [],(An c ⟨k1,true,a1,D0⟩ 2).2):=by simp only[Aj,Ax,Ay,Az,Bq,Cq Bs,Bw,Ba,Bx,Ar,q_km,q_kn,e0];rfl
  rw[eR,Bm,Hv];unfold rdS at ce;simp only[go_sem,seval,v76,v77,v98,v116,v120,wq7,wq8,Am,z3,z4,z5,z6,Bd,Bc,Be,Bf,Bg,Aw];refine Ai ce ?_;simp only[go_sem,seval,v76,v77,v98,v116,v120,wq7,wq8,Am,z3,z4,z5,z6,Bd,Bc,Be,Bf,Bg,Aw,q_h,q_i]
 refine Bk ?_;simp only[go_sem,seval,v76,v77,v98,v116,v120,wq7,wq8,Am,z3,z4,z5,z6,Bd,Bc,Be,Bf,Bg,Aw];refine Ai c1 ?_;simp only[go_sem,seval,v76,v77,v98,v116,v120,wq7,wq8,Am,z3,z4,z5,z6,Bd,Bc,Be,Bf,Bg,Aw];cases b2;rotate_left
 ·refine Bk ?_;have ce:=Cj (nm:=.dsl 1 R) (s:=⟨k2,true,a2,D0⟩) (G:=G++D0) hc 2;have eR:Aj c T ns k [76,77,120,116,98,116,116] ⟨k0,false,a0,D0⟩=(.mk k (u0:Nat) (u1:Nat) 0 [],(An c ⟨k2,true,a2,D0⟩ 2).2):=by simp only[Aj,Ax,Ay,Az,Bq,Cq Bs,Bw,Ba,Bx,Ar,q_km,q_kn,e0,e1];rfl
  rw[eR,Bm,Hv];unfold rdS at ce;simp only[go_sem,seval,v76,v77,v98,v116,v120,wq7,wq8,Am,z3,z4,z5,z6,Bd,Bc,Be,Bf,Bg,Aw];refine Ai ce ?_;simp only[go_sem,seval,v76,v77,v98,v116,v120,wq7,wq8,Am,z3,z4,z5,z6,Bd,Bc,Be,Bf,Bg,Aw,q_h,q_i]
 refine Bk ?_;simp only[go_sem,seval,v76,v77,v98,v116,v120,wq7,wq8,Am,z3,z4,z5,z6,Bd,Bc,Be,Bf,Bg,Aw];refine Ai c2 ?_;simp only[go_sem,seval,v76,v77,v98,v116,v120,wq7,wq8,Am,z3,z4,z5,z6,Bd,Bc,Be,Bf,Bg,Aw];cases b3;rotate_left
 ·refine Bk ?_;have ce:=Cj (nm:=.dsl 1 R) (s:=⟨k3,true,a3,D0⟩) (G:=G++D0) hc 2;have eR:Aj c T ns k [76,77,120,116,98,116,116] ⟨k0,false,a0,D0⟩=(.mk k (u0:Nat) (u1:Nat) 0 [],(An c ⟨k3,true,a3,D0⟩ 2).2):=by simp only[Aj,Ax,Ay,Az,Bq,Cq Bs,Bw,Ba,Bx,Ar,q_km,q_kn,e0,e1,e2];rfl
  rw[eR,Bm,Hv];unfold rdS at ce;simp only[go_sem,seval,v76,v77,v98,v116,v120,wq7,wq8,Am,z3,z4,z5,z6,Bd,Bc,Be,Bf,Bg,Aw];refine Ai ce ?_;simp only[go_sem,seval,v76,v77,v98,v116,v120,wq7,wq8,Am,z3,z4,z5,z6,Bd,Bc,Be,Bf,Bg,Aw,q_h,q_i]
 refine Bk ?_;simp only[go_sem,seval,v76,v77,v98,v116,v120,wq7,wq8,Am,z3,z4,z5,z6,Bd,Bc,Be,Bf,Bg,Aw];refine Ai c3 ?_;simp only[go_sem,seval,v76,v77,v98,v116,v120,wq7,wq8,Am,z3,z4,z5,z6,Bd,Bc,Be,Bf,Bg,Aw];cases b4;rotate_left
 ·refine Bk ?_;have ce:=Cj (nm:=.dsl 1 R) (s:=⟨k4,true,a4,D4⟩) (G:=G++D4) hc 2;have eR:Aj c T ns k [76,77,120,116,98,116,116] ⟨k0,false,a0,D0⟩=(.mk k (u0:Nat) (u1:Nat) 0 [u3],(An c ⟨k4,true,a4,D4⟩ 2).2):=by simp only[Aj,Ax,Ay,Az,Bq,Cq Bs,Bw,Ba,Bx,Ar,q_km,q_kn,e0,e1,e2,e3];rfl
  rw[eR,Bm,Ds];unfold rdS at ce;simp only[go_sem,seval,v76,v77,v98,v116,v120,wq7,wq8,Am,z3,z4,z5,z6,Bd,Bc,Be,Bf,Bg,Aw];refine Ai ce ?_;simp only[go_sem,seval,v76,v77,v98,v116,v120,wq7,wq8,Am,z3,z4,z5,z6,Bd,Bc,Be,Bf,Bg,Aw,q_h,q_i]
 refine Bk ?_;simp only[go_sem,seval,v76,v77,v98,v116,v120,wq7,wq8,Am,z3,z4,z5,z6,Bd,Bc,Be,Bf,Bg,Aw];refine Ai c4 ?_;simp only[go_sem,seval,v76,v77,v98,v116,v120,wq7,wq8,Am,z3,z4,z5,z6,Bd,Bc,Be,Bf,Bg,Aw];cases b5;rotate_left
 ·refine Bk ?_;have ce:=Cj (nm:=.dsl 1 R) (s:=⟨k5,true,a5,D5⟩) (G:=G++D5) hc 2;have eR:Aj c T ns k [76,77,120,116,98,116,116] ⟨k0,false,a0,D0⟩=(.mk k (u0:Nat) (u1:Nat) 0 [u3,u4],(An c ⟨k5,true,a5,D5⟩ 2).2):=by simp only[Aj,Ax,Ay,Az,Bq,Cq Bs,Bw,Ba,Bx,Ar,q_km,q_kn,e0,e1,e2,e3,e4];rfl
  rw[eR,Bm,Ds];unfold rdS at ce;simp only[go_sem,seval,v76,v77,v98,v116,v120,wq7,wq8,Am,z3,z4,z5,z6,Bd,Bc,Be,Bf,Bg,Aw];refine Ai ce ?_;simp only[go_sem,seval,v76,v77,v98,v116,v120,wq7,wq8,Am,z3,z4,z5,z6,Bd,Bc,Be,Bf,Bg,Aw,q_h,q_i]
 refine Bk ?_;simp only[go_sem,seval,v76,v77,v98,v116,v120,wq7,wq8,Am,z3,z4,z5,z6,Bd,Bc,Be,Bf,Bg,Aw];refine Ai c5 ?_;simp only[go_sem,seval,v76,v77,v98,v116,v120,wq7,wq8,Am,z3,z4,z5,z6,Bd,Bc,Be,Bf,Bg,Aw];cases b6;rotate_left
 ·refine Bk ?_;have ce:=Cj (nm:=.dsl 1 R) (s:=⟨k6,true,a6,D6⟩) (G:=G++D6) hc 2;have eR:Aj c T ns k [76,77,120,116,98,116,116] ⟨k0,false,a0,D0⟩=(.mk k (u0:Nat) (u1:Nat) 0 [u3,u4,u5],(An c ⟨k6,true,a6,D6⟩ 2).2):=by simp only[Aj,Ax,Ay,Az,Bq,Cq Bs,Bw,Ba,Bx,Ar,q_km,q_kn,e0,e1,e2,e3,e4,e5];rfl
  rw[eR,Bm,Ds];unfold rdS at ce;simp only[go_sem,seval,v76,v77,v98,v116,v120,wq7,wq8,Am,z3,z4,z5,z6,Bd,Bc,Be,Bf,Bg,Aw];refine Ai ce ?_;simp only[go_sem,seval,v76,v77,v98,v116,v120,wq7,wq8,Am,z3,z4,z5,z6,Bd,Bc,Be,Bf,Bg,Aw,q_h,q_i]
 refine Bk ?_;simp only[go_sem,seval,v76,v77,v98,v116,v120,wq7,wq8,Am,z3,z4,z5,z6,Bd,Bc,Be,Bf,Bg,Aw];refine Ai c6 ?_;simp only[go_sem,seval,v76,v77,v98,v116,v120,wq7,wq8,Am,z3,z4,z5,z6,Bd,Bc,Be,Bf,Bg,Aw];refine Bk ?_;have ce:=Cj (nm:=.dsl 1 R) (s:=⟨k7,b7,a7,D7⟩) (G:=G++D7) hc 2;have eR:Aj c T ns k [76,77,120,116,98,116,116] ⟨k0,false,a0,D0⟩=(.mk k (u0:Nat) (u1:Nat) 0 [u3,u4,u5,u6],(An c ⟨k7,b7,a7,D7⟩ 2).2):=by simp only[Aj,Ax,Ay,Az,Bq,Cq Bs,Bw,Ba,Bx,Ar,q_km,q_kn,e0,e1,e2,e3,e4,e5,e6];rfl
 rw[eR,Bm,Ds];unfold rdS at ce;simp only[go_sem,seval,v76,v77,v98,v116,v120,wq7,wq8,Am,z3,z4,z5,z6,Bd,Bc,Be,Bf,Bg,Aw];refine Ai ce ?_;simp only[go_sem,seval,v76,v77,v98,v116,v120,wq7,wq8,Am,z3,z4,z5,z6,Bd,Bc,Be,Bf,Bg,Aw,q_h,q_i]
def Ayl(hc:Fz c)(hT:TCG c T f)(Cc:ns.length+3*f+2<100000000000)(hk:12<k/\k≠23)(hb:s.bad=false)(hN:NGr s.D)(hG:NGr G)(hs:c.L.length<s.k+f):LCG c T ns k [116,116,121,101,80,116,116,116] s G:=by
 obtain⟨k0,b0,a0,D0⟩:=s;simp only at hs hN hb;subst hb;have Ar:ofR k=2:=by unfold ofR;rw[if_neg (by omega)]
 have Fm:¬(k:Int)<=12:=by omega
 have Bs:k≠23:=hk.2;have Am:((k:Int)==23)=false:=by rw[beq_eq_false_iff_ne];omega
 have t0:=hT ns 2 ⟨k0,false,a0,D0⟩ G (by first|omega|(simp only;omega)) (by first|omega|(simp at Cc |-;omega)) (by decide) hN hG;generalize e0:T ns 2 ⟨k0,false,a0,D0⟩=q at t0;obtain⟨u0,k1,b1,a1,D1⟩:=q;obtain⟨c0,m0,N1⟩:=t0;simp only at c0 m0 N1;have z0:=Bz u0;have t1:=hT ns 2 ⟨k1,false,a1,D1⟩ G (by first|omega|(simp only;omega)) (by first|omega|(simp at Cc |-;omega)) (by decide) N1 hG;generalize e1:T ns 2 ⟨k1,false,a1,D1⟩=q at t1;obtain⟨u1,k2,b2,a2,D2⟩:=q;obtain⟨c1,m1,N2⟩:=t1;simp only at c1 m1 N2;have z1:=Bz u1;have c2:=Cj (nm:=nmG ns) (s:=⟨k2,false,a2,D2⟩) (G:=G++D2) hc 3;have d2:=(Bm (c:=c) (s:=⟨k2,false,a2,D2⟩) 3).symm;have m2:=Cp (c:=c) (s:=⟨k2,false,a2,D2⟩) 3;generalize e2:An c ⟨k2,false,a2,D2⟩ 3=q at c2 d2 m2;obtain⟨u2,k3,b3,a3,E3⟩:=q;simp only at c2 d2 m2;subst d2;have c3:=Cj (nm:=nmG ns) (s:=⟨k3,false,a3,D2⟩) (G:=G++D2) hc 3;have d3:=(Bm (c:=c) (s:=⟨k3,false,a3,D2⟩) 3).symm;have m3:=Cp (c:=c) (s:=⟨k3,false,a3,D2⟩) 3;generalize e3:An c ⟨k3,false,a3,D2⟩ 3=q at c3 d3 m3;obtain⟨u3,k4,b4,a4,E4⟩:=q;simp only at c3 d3 m3;subst d3;have t4:=hT (u3::u2::ns) 2 ⟨k4,false,a4,D2⟩ G (by first|omega|(simp only;omega)) (by first|omega|(simp at Cc |-;omega)) (by decide) N2 hG;generalize e4:T (u3::u2::ns) 2 ⟨k4,false,a4,D2⟩=q at t4;obtain⟨u4,k5,b5,a5,D5⟩:=q;obtain⟨c4,m4,N5⟩:=t4;simp only at c4 m4 N5;have z4:=Bz u4;have t5:=hT ns 2 ⟨k5,false,a5,D5⟩ G (by first|omega|(simp only;omega)) (by first|omega|(simp at Cc |-;omega)) (by decide) N5 hG;generalize e5:T ns 2 ⟨k5,false,a5,D5⟩=q at t5;obtain⟨u5,k6,b6,a6,D6⟩:=q;obtain⟨c5,m5,N6⟩:=t5;simp only at c5 m5 N6;have z5:=Bz u5;have t6:=hT ns 2 ⟨k6,false,a6,D6⟩ G (by first|omega|(simp only;omega)) (by first|omega|(simp at Cc |-;omega)) (by decide) N6 hG;generalize e6:T ns 2 ⟨k6,false,a6,D6⟩=q at t6;obtain⟨u6,k7,b7,a7,D7⟩:=q;obtain⟨c6,m6,N7⟩:=t6;simp only at c6 m6 N7;have z6:=Bz u6;have t7:=hT ns 2 ⟨k7,false,a7,D7⟩ G (by first|omega|(simp only;omega)) (by first|omega|(simp at Cc |-;omega)) (by decide) N7 hG;generalize e7:T ns 2 ⟨k7,false,a7,D7⟩=q at t7;obtain⟨u7,k8,b8,a8,D8⟩:=q;obtain⟨c7,m7,N8⟩:=t7;simp only at c7 m7 N8;have z7:=Bz u7;refine⟨?_,?_,?_⟩;rotate_left
 ·cases b1;rotate_left
  ·have eR:Aj c T ns k [116,116,121,101,80,116,116,116] ⟨k0,false,a0,D0⟩=(.mk k (0:Nat) (0:Nat) 0 [u0],(An c ⟨k1,true,a1,D1⟩ 2).2):=by simp only[Aj,Ax,Ay,Az,Gr,Gs,Ba,Gt,Ar,q_km,q_kn,e0];rfl
   rw[eR];refine q_ko ?_ (Cp 2);first|omega|(simp only;omega)
  cases b2;rotate_left
  ·have eR:Aj c T ns k [116,116,121,101,80,116,116,116] ⟨k0,false,a0,D0⟩=(.mk k (0:Nat) (0:Nat) 0 [u0,u1],(An c ⟨k2,true,a2,D2⟩ 2).2):=by simp only[Aj,Ax,Ay,Az,Gr,Gs,Ba,Gt,Ar,q_km,q_kn,e0,e1];rfl
   rw[eR];refine q_ko ?_ (Cp 2);first|omega|(simp only;omega)
  cases b3;rotate_left
  ·have eR:Aj c T ns k [116,116,121,101,80,116,116,116] ⟨k0,false,a0,D0⟩=(.mk k (0:Nat) (0:Nat) 0 [u0,u1],(An c ⟨k3,true,a3,D2⟩ 2).2):=by simp only[Aj,Ax,Ay,Az,Gr,Gs,Ba,Gt,Ar,q_km,q_kn,e0,e1,e2];rfl
   rw[eR];refine q_ko ?_ (Cp 2);first|omega|(simp only;omega)
  cases b4;rotate_left
  ·have eR:Aj c T ns k [116,116,121,101,80,116,116,116] ⟨k0,false,a0,D0⟩=(.mk k (0:Nat) (0:Nat) 0 [u0,u1],(An c ⟨k4,true,a4,D2⟩ 2).2):=by simp only[Aj,Ax,Ay,Az,Gr,Gs,Ba,Gt,Ar,q_km,q_kn,e0,e1,e2,e3];rfl
   rw[eR];refine q_ko ?_ (Cp 2);first|omega|(simp only;omega)
  cases b5;rotate_left
  ·have eR:Aj c T ns k [116,116,121,101,80,116,116,116] ⟨k0,false,a0,D0⟩=(.mk k (0:Nat) (0:Nat) 0 [u0,u1,u4],(An c ⟨k5,true,a5,D5⟩ 2).2):=by simp only[Aj,Ax,Ay,Az,Gr,Gs,Ba,Gt,Ar,q_km,q_kn,e0,e1,e2,e3,e4];rfl
   rw[eR];refine q_ko ?_ (Cp 2);first|omega|(simp only;omega)
  cases b6;rotate_left
  ·have eR:Aj c T ns k [116,116,121,101,80,116,116,116] ⟨k0,false,a0,D0⟩=(.mk k (0:Nat) (0:Nat) 0 [u0,u1,u4,u5],(An c ⟨k6,true,a6,D6⟩ 2).2):=by simp only[Aj,Ax,Ay,Az,Gr,Gs,Ba,Gt,Ar,q_km,q_kn,e0,e1,e2,e3,e4,e5];rfl
   rw[eR];refine q_ko ?_ (Cp 2);first|omega|(simp only;omega)
  cases b7;rotate_left
  ·have eR:Aj c T ns k [116,116,121,101,80,116,116,116] ⟨k0,false,a0,D0⟩=(.mk k (0:Nat) (0:Nat) 0 [u0,u1,u4,u5,u6],(An c ⟨k7,true,a7,D7⟩ 2).2):=by simp only[Aj,Ax,Ay,Az,Gr,Gs,Ba,Gt,Ar,q_km,q_kn,e0,e1,e2,e3,e4,e5,e6];rfl
   rw[eR];refine q_ko ?_ (Cp 2);first|omega|(simp only;omega)
  have eR:Aj c T ns k [116,116,121,101,80,116,116,116] ⟨k0,false,a0,D0⟩=(.mk k (0:Nat) (0:Nat) 0 [u0,u1,u4,u5,u6,u7],(An c ⟨k8,b8,a8,D8⟩ 2).2):=by simp only[Aj,Ax,Ay,Az,Gr,Gs,Ba,Gt,Ar,q_km,q_kn,e0,e1,e2,e3,e4,e5,e6,e7];rfl
  rw[eR];refine q_ko ?_ (Cp 2);first|omega|(simp only;omega)
 ·cases b1;rotate_left
  ·have eR:Aj c T ns k [116,116,121,101,80,116,116,116] ⟨k0,false,a0,D0⟩=(.mk k (0:Nat) (0:Nat) 0 [u0],(An c ⟨k1,true,a1,D1⟩ 2).2):=by simp only[Aj,Ax,Ay,Az,Gr,Gs,Ba,Gt,Ar,q_km,q_kn,e0];rfl
   rw[eR];rw[Bm];exact N1
  cases b2;rotate_left
  ·have eR:Aj c T ns k [116,116,121,101,80,116,116,116] ⟨k0,false,a0,D0⟩=(.mk k (0:Nat) (0:Nat) 0 [u0,u1],(An c ⟨k2,true,a2,D2⟩ 2).2):=by simp only[Aj,Ax,Ay,Az,Gr,Gs,Ba,Gt,Ar,q_km,q_kn,e0,e1];rfl
   rw[eR];rw[Bm];exact N2
  cases b3;rotate_left
  ·have eR:Aj c T ns k [116,116,121,101,80,116,116,116] ⟨k0,false,a0,D0⟩=(.mk k (0:Nat) (0:Nat) 0 [u0,u1],(An c ⟨k3,true,a3,D2⟩ 2).2):=by simp only[Aj,Ax,Ay,Az,Gr,Gs,Ba,Gt,Ar,q_km,q_kn,e0,e1,e2];rfl
   rw[eR];rw[Bm];exact N2
  cases b4;rotate_left
  ·have eR:Aj c T ns k [116,116,121,101,80,116,116,116] ⟨k0,false,a0,D0⟩=(.mk k (0:Nat) (0:Nat) 0 [u0,u1],(An c ⟨k4,true,a4,D2⟩ 2).2):=by simp only[Aj,Ax,Ay,Az,Gr,Gs,Ba,Gt,Ar,q_km,q_kn,e0,e1,e2,e3];rfl
   rw[eR];rw[Bm];exact N2
  cases b5;rotate_left
  ·have eR:Aj c T ns k [116,116,121,101,80,116,116,116] ⟨k0,false,a0,D0⟩=(.mk k (0:Nat) (0:Nat) 0 [u0,u1,u4],(An c ⟨k5,true,a5,D5⟩ 2).2):=by simp only[Aj,Ax,Ay,Az,Gr,Gs,Ba,Gt,Ar,q_km,q_kn,e0,e1,e2,e3,e4];rfl
   rw[eR];rw[Bm];exact N5
  cases b6;rotate_left
  ·have eR:Aj c T ns k [116,116,121,101,80,116,116,116] ⟨k0,false,a0,D0⟩=(.mk k (0:Nat) (0:Nat) 0 [u0,u1,u4,u5],(An c ⟨k6,true,a6,D6⟩ 2).2):=by simp only[Aj,Ax,Ay,Az,Gr,Gs,Ba,Gt,Ar,q_km,q_kn,e0,e1,e2,e3,e4,e5];rfl
   rw[eR];rw[Bm];exact N6
  cases b7;rotate_left
  ·have eR:Aj c T ns k [116,116,121,101,80,116,116,116] ⟨k0,false,a0,D0⟩=(.mk k (0:Nat) (0:Nat) 0 [u0,u1,u4,u5,u6],(An c ⟨k7,true,a7,D7⟩ 2).2):=by simp only[Aj,Ax,Ay,Az,Gr,Gs,Ba,Gt,Ar,q_km,q_kn,e0,e1,e2,e3,e4,e5,e6];rfl
   rw[eR];rw[Bm];exact N7
  have eR:Aj c T ns k [116,116,121,101,80,116,116,116] ⟨k0,false,a0,D0⟩=(.mk k (0:Nat) (0:Nat) 0 [u0,u1,u4,u5,u6,u7],(An c ⟨k8,b8,a8,D8⟩ 2).2):=by simp only[Aj,Ax,Ay,Az,Gr,Gs,Ba,Gt,Ar,q_km,q_kn,e0,e1,e2,e3,e4,e5,e6,e7];rfl
  rw[eR];rw[Bm];exact N8
 refine Hg (r:=.agg true (tvn (Aj c T ns k [116,116,121,101,80,116,116,116] ⟨k0,false,a0,D0⟩).1)) ?_ (Ip _);have Ly:8<=140737488355328:=by decide
 have Bd:(ns.reverse.map wdG).length=ns.length:=by simp
 have Bc:ns.length*16<=140737488355328:=by omega
 have Be:ns.length<=140737488355328:=by omega
 have Bf:(ns.length+2)*16<=140737488355328:=by omega
 have Bg:ns.length<=140737488355326:=by omega
 rw[show nmG (u3::u2::ns)=.dsl 1 (ns.reverse.map wdG++[[SV.str (bs u2)],[SV.str (bs u3)]]) by simp[nmG,wdG]] at c4;rw[show nmG ns=.dsl 1 (ns.reverse.map wdG) from rfl] at *
 generalize ns.reverse.map wdG=R at *
 have Aw:List.take (ns.length+2) (R++[[SV.str (bs u2)],[SV.str (bs u3)]])=R++[[SV.str (bs u2)],[SV.str (bs u3)]]:=q_js (by simp;omega);refine Cl mixed Tryz.func190 tr190 ?_;unfold rdS at c0 c1 c2 c3 c4 c5 c6 c7 |-;simp only[go_sem,seval,Fm];refine Ff 9 (Bk ?_);simp only[go_sem,seval,v80,v101,v116,v121,wq7,wq8,Am,z0,z1,z4,z5,z6,z7,Bd,Bc,Be,Bf,Bg,Aw];refine Ai c0 ?_;simp only[go_sem,seval,v80,v101,v116,v121,wq7,wq8,Am,z0,z1,z4,z5,z6,z7,Bd,Bc,Be,Bf,Bg,Aw];cases b1;rotate_left
 ·refine Bk ?_;have ce:=Cj (nm:=.dsl 1 R) (s:=⟨k1,true,a1,D1⟩) (G:=G++D1) hc 2;have eR:Aj c T ns k [116,116,121,101,80,116,116,116] ⟨k0,false,a0,D0⟩=(.mk k (0:Nat) (0:Nat) 0 [u0],(An c ⟨k1,true,a1,D1⟩ 2).2):=by simp only[Aj,Ax,Ay,Az,Gr,Gs,Ba,Gt,Ar,q_km,q_kn,e0];rfl
  rw[eR,Bm,Ds];unfold rdS at ce;simp only[go_sem,seval,v80,v101,v116,v121,wq7,wq8,Am,z0,z1,z4,z5,z6,z7,Bd,Bc,Be,Bf,Bg,Aw];refine Ai ce ?_;simp only[go_sem,seval,v80,v101,v116,v121,wq7,wq8,Am,z0,z1,z4,z5,z6,z7,Bd,Bc,Be,Bf,Bg,Aw,q_h,q_i]
 refine Bk ?_;simp only[go_sem,seval,v80,v101,v116,v121,wq7,wq8,Am,z0,z1,z4,z5,z6,z7,Bd,Bc,Be,Bf,Bg,Aw];refine Ai c1 ?_;simp only[go_sem,seval,v80,v101,v116,v121,wq7,wq8,Am,z0,z1,z4,z5,z6,z7,Bd,Bc,Be,Bf,Bg,Aw];cases b2;rotate_left
 ·refine Bk ?_;have ce:=Cj (nm:=.dsl 1 R) (s:=⟨k2,true,a2,D2⟩) (G:=G++D2) hc 2;have eR:Aj c T ns k [116,116,121,101,80,116,116,116] ⟨k0,false,a0,D0⟩=(.mk k (0:Nat) (0:Nat) 0 [u0,u1],(An c ⟨k2,true,a2,D2⟩ 2).2):=by simp only[Aj,Ax,Ay,Az,Gr,Gs,Ba,Gt,Ar,q_km,q_kn,e0,e1];rfl
  rw[eR,Bm,Ds];unfold rdS at ce;simp only[go_sem,seval,v80,v101,v116,v121,wq7,wq8,Am,z0,z1,z4,z5,z6,z7,Bd,Bc,Be,Bf,Bg,Aw];refine Ai ce ?_;simp only[go_sem,seval,v80,v101,v116,v121,wq7,wq8,Am,z0,z1,z4,z5,z6,z7,Bd,Bc,Be,Bf,Bg,Aw,q_h,q_i]
 refine Bk ?_;simp only[go_sem,seval,v80,v101,v116,v121,wq7,wq8,Am,z0,z1,z4,z5,z6,z7,Bd,Bc,Be,Bf,Bg,Aw];refine Ai c2 ?_;simp only[go_sem,seval,v80,v101,v116,v121,wq7,wq8,Am,z0,z1,z4,z5,z6,z7,Bd,Bc,Be,Bf,Bg,Aw];cases b3;rotate_left
 ·refine Bk ?_;have ce:=Cj (nm:=.dsl 1 R) (s:=⟨k3,true,a3,D2⟩) (G:=G++D2) hc 2;have eR:Aj c T ns k [116,116,121,101,80,116,116,116] ⟨k0,false,a0,D0⟩=(.mk k (0:Nat) (0:Nat) 0 [u0,u1],(An c ⟨k3,true,a3,D2⟩ 2).2):=by simp only[Aj,Ax,Ay,Az,Gr,Gs,Ba,Gt,Ar,q_km,q_kn,e0,e1,e2];rfl
  rw[eR,Bm,Ds];unfold rdS at ce;simp only[go_sem,seval,v80,v101,v116,v121,wq7,wq8,Am,z0,z1,z4,z5,z6,z7,Bd,Bc,Be,Bf,Bg,Aw];refine Ai ce ?_;simp only[go_sem,seval,v80,v101,v116,v121,wq7,wq8,Am,z0,z1,z4,z5,z6,z7,Bd,Bc,Be,Bf,Bg,Aw,q_h,q_i]
 refine Bk ?_;simp only[go_sem,seval,v80,v101,v116,v121,wq7,wq8,Am,z0,z1,z4,z5,z6,z7,Bd,Bc,Be,Bf,Bg,Aw];refine Ai c3 ?_;simp only[go_sem,seval,v80,v101,v116,v121,wq7,wq8,Am,z0,z1,z4,z5,z6,z7,Bd,Bc,Be,Bf,Bg,Aw];cases b4;rotate_left
 ·refine Bk ?_;have ce:=Cj (nm:=.dsl 1 R) (s:=⟨k4,true,a4,D2⟩) (G:=G++D2) hc 2;have eR:Aj c T ns k [116,116,121,101,80,116,116,116] ⟨k0,false,a0,D0⟩=(.mk k (0:Nat) (0:Nat) 0 [u0,u1],(An c ⟨k4,true,a4,D2⟩ 2).2):=by simp only[Aj,Ax,Ay,Az,Gr,Gs,Ba,Gt,Ar,q_km,q_kn,e0,e1,e2,e3];rfl
  rw[eR,Bm,Ds];unfold rdS at ce;simp only[go_sem,seval,v80,v101,v116,v121,wq7,wq8,Am,z0,z1,z4,z5,z6,z7,Bd,Bc,Be,Bf,Bg,Aw];refine Ai ce ?_;simp only[go_sem,seval,v80,v101,v116,v121,wq7,wq8,Am,z0,z1,z4,z5,z6,z7,Bd,Bc,Be,Bf,Bg,Aw,q_h,q_i]
 refine Bk ?_;simp only[go_sem,seval,v80,v101,v116,v121,wq7,wq8,Am,z0,z1,z4,z5,z6,z7,Bd,Bc,Be,Bf,Bg,Aw];refine Ai c4 ?_;simp only[go_sem,seval,v80,v101,v116,v121,wq7,wq8,Am,z0,z1,z4,z5,z6,z7,Bd,Bc,Be,Bf,Bg,Aw];cases b5;rotate_left
 ·refine Bk ?_;have ce:=Cj (nm:=.dsl 1 R) (s:=⟨k5,true,a5,D5⟩) (G:=G++D5) hc 2;have eR:Aj c T ns k [116,116,121,101,80,116,116,116] ⟨k0,false,a0,D0⟩=(.mk k (0:Nat) (0:Nat) 0 [u0,u1,u4],(An c ⟨k5,true,a5,D5⟩ 2).2):=by simp only[Aj,Ax,Ay,Az,Gr,Gs,Ba,Gt,Ar,q_km,q_kn,e0,e1,e2,e3,e4];rfl
  rw[eR,Bm,Ds];unfold rdS at ce;simp only[go_sem,seval,v80,v101,v116,v121,wq7,wq8,Am,z0,z1,z4,z5,z6,z7,Bd,Bc,Be,Bf,Bg,Aw];refine Ai ce ?_;simp only[go_sem,seval,v80,v101,v116,v121,wq7,wq8,Am,z0,z1,z4,z5,z6,z7,Bd,Bc,Be,Bf,Bg,Aw,q_h,q_i]
 refine Bk ?_;simp only[go_sem,seval,v80,v101,v116,v121,wq7,wq8,Am,z0,z1,z4,z5,z6,z7,Bd,Bc,Be,Bf,Bg,Aw];refine Ai c5 ?_;simp only[go_sem,seval,v80,v101,v116,v121,wq7,wq8,Am,z0,z1,z4,z5,z6,z7,Bd,Bc,Be,Bf,Bg,Aw];cases b6;rotate_left
 ·refine Bk ?_;have ce:=Cj (nm:=.dsl 1 R) (s:=⟨k6,true,a6,D6⟩) (G:=G++D6) hc 2;have eR:Aj c T ns k [116,116,121,101,80,116,116,116] ⟨k0,false,a0,D0⟩=(.mk k (0:Nat) (0:Nat) 0 [u0,u1,u4,u5],(An c ⟨k6,true,a6,D6⟩ 2).2):=by simp only[Aj,Ax,Ay,Az,Gr,Gs,Ba,Gt,Ar,q_km,q_kn,e0,e1,e2,e3,e4,e5];rfl
  rw[eR,Bm,Ds];unfold rdS at ce;simp only[go_sem,seval,v80,v101,v116,v121,wq7,wq8,Am,z0,z1,z4,z5,z6,z7,Bd,Bc,Be,Bf,Bg,Aw];refine Ai ce ?_;simp only[go_sem,seval,v80,v101,v116,v121,wq7,wq8,Am,z0,z1,z4,z5,z6,z7,Bd,Bc,Be,Bf,Bg,Aw,q_h,q_i]
 refine Bk ?_;simp only[go_sem,seval,v80,v101,v116,v121,wq7,wq8,Am,z0,z1,z4,z5,z6,z7,Bd,Bc,Be,Bf,Bg,Aw];refine Ai c6 ?_;simp only[go_sem,seval,v80,v101,v116,v121,wq7,wq8,Am,z0,z1,z4,z5,z6,z7,Bd,Bc,Be,Bf,Bg,Aw];cases b7;rotate_left
 ·refine Bk ?_;have ce:=Cj (nm:=.dsl 1 R) (s:=⟨k7,true,a7,D7⟩) (G:=G++D7) hc 2;have eR:Aj c T ns k [116,116,121,101,80,116,116,116] ⟨k0,false,a0,D0⟩=(.mk k (0:Nat) (0:Nat) 0 [u0,u1,u4,u5,u6],(An c ⟨k7,true,a7,D7⟩ 2).2):=by simp only[Aj,Ax,Ay,Az,Gr,Gs,Ba,Gt,Ar,q_km,q_kn,e0,e1,e2,e3,e4,e5,e6];rfl
  rw[eR,Bm,Ds];unfold rdS at ce;simp only[go_sem,seval,v80,v101,v116,v121,wq7,wq8,Am,z0,z1,z4,z5,z6,z7,Bd,Bc,Be,Bf,Bg,Aw];refine Ai ce ?_;simp only[go_sem,seval,v80,v101,v116,v121,wq7,wq8,Am,z0,z1,z4,z5,z6,z7,Bd,Bc,Be,Bf,Bg,Aw,q_h,q_i]
 refine Bk ?_;simp only[go_sem,seval,v80,v101,v116,v121,wq7,wq8,Am,z0,z1,z4,z5,z6,z7,Bd,Bc,Be,Bf,Bg,Aw];refine Ai c7 ?_;simp only[go_sem,seval,v80,v101,v116,v121,wq7,wq8,Am,z0,z1,z4,z5,z6,z7,Bd,Bc,Be,Bf,Bg,Aw];refine Bk ?_;have ce:=Cj (nm:=.dsl 1 R) (s:=⟨k8,b8,a8,D8⟩) (G:=G++D8) hc 2;have eR:Aj c T ns k [116,116,121,101,80,116,116,116] ⟨k0,false,a0,D0⟩=(.mk k (0:Nat) (0:Nat) 0 [u0,u1,u4,u5,u6,u7],(An c ⟨k8,b8,a8,D8⟩ 2).2):=by simp only[Aj,Ax,Ay,Az,Gr,Gs,Ba,Gt,Ar,q_km,q_kn,e0,e1,e2,e3,e4,e5,e6,e7];rfl
 rw[eR,Bm,Ds];unfold rdS at ce;simp only[go_sem,seval,v80,v101,v116,v121,wq7,wq8,Am,z0,z1,z4,z5,z6,z7,Bd,Bc,Be,Bf,Bg,Aw];refine Ai ce ?_;simp only[go_sem,seval,v80,v101,v116,v121,wq7,wq8,Am,z0,z1,z4,z5,z6,z7,Bd,Bc,Be,Bf,Bg,Aw,q_h,q_i]
end
def rtLn{rs:List AR}{G':GV}{row:List SV}{s:St}:rtL rs G' row .normal s=Abf rs G' row s:=q_z
def A5a{C:CT}{b:AC}{Q:AE->St->Prop}{n:Nat}{s s':St}(h:Wk s s')(k:vcI C b Q n s'):vcI C b Q n s:=by
 cases n with
 |zero=>exact k
 |succ n=>
  obtain⟨s0,h1,h2⟩:=k;exact⟨s0,.trans h h1,h2⟩
def Om(a b n:Int)(k:SV):List SV:=[.int .i64 23,.int .i64 a,.int .i64 b,.int .i64 n,k]
def Afk{a c n:Int}{k:SV}(h:NoG k):∀x∈Om a c n k,NoG x:=fun x hx=>by
 simp only[Om,q_kb,q_kc,or_false] at hx;rcases hx with rfl|rfl|rfl|rfl|rfl
 ·exact .int _ _
 ·exact .int _ _
 ·exact .int _ _
 ·exact .int _ _
 ·exact h
def arG:∀n,n<21->Fc 23 ((n+1:Nat):Int)=((arN (n+1):Nat):Int)/\0<arN (n+1)/\arN (n+1)<=12:=by decide
def Nd(T:TR)(ns:List By):Nat->RS->RS
 |0,s=>s
 |x+1,s=>Nd T ns x (T ns 2 s).2
def Alg(T:TR)(ns:List By):∀(m:Nat) (s:RS),(Gm T ns m s).2=Nd T ns m s/\(Gm T ns m s).1.length=m/\∀x,x<m->(Gm T ns m s).1[x]?=some (T ns 2 (Nd T ns x s)).1:=by
 intro m
 induction m with
 |zero=>intro s;exact⟨rfl,rfl,fun x h=>by omega⟩
 |succ m ih=>
  intro s;obtain⟨h1,h2,h3⟩:=ih (T ns 2 s).2;refine⟨h1,by rw[Gm,q_jk,h2],fun x hx=>?_⟩;cases x with
  |zero=>rfl
  |succ x=>
   have:=h3 x (by omega);rw[Gm,q_kf,this];rfl
section
variable{c:RC}{T:TR}{f:Nat}{ns:List By}{G:GV}
def Amj(hT:TCG c T f)(Cc:ns.length+3*f<100000000000)(hG:NGr G):∀(x:Nat) (s:RS),c.L.length<s.k+f->NGr s.D->s.k<=(Nd T ns x s).k/\NGr (Nd T ns x s).D /\
  Dc 155 (rdS c (nmG ns) (Nd T ns x s)::(G++(Nd T ns x s).D)) [.gp 0 0,.int .i64 2] (.ret (.agg true (tv (T ns 2 (Nd T ns x s)).1))) (rdS c (nmG ns) (Nd T ns (x+1) s)::(G++(Nd T ns (x+1) s).D)):=by
 intro x
 induction x with
 |zero=>
  intro s hs hN;exact⟨q_ja _,hN,(hT ns 2 s G hs Cc (by decide) hN hG).1⟩
 |succ x ih=>
  intro s hs hN;obtain⟨h1,h2,h3⟩:=hT ns 2 s G hs Cc (by decide) hN hG;obtain⟨k1,k2,k3⟩:=ih (T ns 2 s).2 (by omega) h3;exact⟨q_ko h2 k1,k2,k3⟩
def App{hp:List Ob}{a c n:Int}{x:Nat}{M:GV}{ob:Ob}(h:hp[3]?=some ob)(hb:ob.box=false)(hg:ob.gen=x)(hs:ob.sz=5)(hM:ob.els.take (x+1)=M) :
  Dl hp (.agg false [.int .i64 23,.int .i64 a,.int .i64 c,.int .i64 n,.osl 3 x 0 (x+1)])=some (.agg true [.int .i64 23,.int .i64 a,.int .i64 c,.int .i64 n,.dsl 5 M],fz hp 3 ob):=by
 simp[Dl,Jg,Dn,h,hb,hg,hs,hM]
def Xq(c:RC)(nm:SV)(G:GV)(Q:Nat->RS)(M:GV)(m:Nat)(a b n:Int):Nat->St
 |0=>⟨(.gp 0 0::.ref 1 777 0 0::jk4 (jk2 (.int .i64 (m:Nat)::.int .i64 0::jk8 (jk4 (jk2 ([])))))),[gOb (rdS c nm (Q 0)::(G++(Q 0).D)),⟨true,5,[[.int .i64 23,.int .i64 a,.int .i64 b,.int .i64 n,.nils]],0,777,true⟩]⟩
 |x+1=>⟨(.gp 0 0::.ref 1 777 0 0::jk4 (jk2 (.int .i64 (m:Nat)::.int .i64 ((x+1:Nat):Int)::jk8 (jk4 (jk2 ([])))))),[gOb (rdS c nm (Q (x+1))::(G++(Q (x+1)).D)),⟨true,5,[[.int .i64 23,.int .i64 a,.int .i64 b,.int .i64 n,.osl 3 x 0 (x+1)]],0,777,false⟩,⟨false,5,[[.int .i64 0,.int .i64 0,.int .i64 0,.int .i64 0,.nils]],0,0,true⟩,⟨false,5,M.take (x+1),x,x,true⟩]⟩
def Awn(hT:TCG c T f)(Cc:ns.length+3*f<100000000000)(hG:NGr G){s:RS}(hs:c.L.length<s.k+f)(hD:s.D=[]){n:Nat}(hn:n<21)(a b:Int) :
  Dc 214 (rdS c (nmG ns) s::(G++[Om a b ((n+1:Nat):Int) .nils])) [.gp 0 0,.gp (G.length+1) 0] (.ret (.tup []))
   (rdS c (nmG ns) (Gm T ns (arN (n+1)) s).2::(G++Om a b ((n+1:Nat):Int) (.dsl 5 ((Gm T ns (arN (n+1)) s).1.map tv))::(Gm T ns (arN (n+1)) s).2.D)):=by
 obtain⟨hk,h0,Nm⟩:=arG n hn;generalize ((n+1:Nat):Int)=N at *
 generalize arN (n+1)=m at *
 obtain⟨q1,q2,q3⟩:=Alg T ns m s;have hQ:=fun x=>Amj (x:=x) hT Cc hG s hs (by rw[hD];exact .nil)
 rw[q1];have hQ0:Nd T ns 0 s=s:=rfl;generalize Nd T ns=Q' at hQ q3 hQ0 |-;obtain⟨Q,hQe⟩:∃Q:Nat->RS,Q=fun x=>Q' x s:=⟨_,rfl⟩
 have hQx:∀x,Q' x s=Q x:=fun x=>by rw[hQe]
 simp only[hQx] at hQ q3 hQ0 |-;generalize (Gm T ns m s).1=l at *
 refine Aw5 mixed Tryz.func214 tr214 (NGr.cons Alo (hG.app (NGr.cons (Afk .nils) .nil))) (NGr.cons Alo (hG.app (hQ m).2.1)) (Afk (Alm l)) (by simp[Om]) ?_;have Rq:=Ahf 23 N;rw[hk] at Rq;have em:(l.map tv).length=m:=by simp[q2]
 have Gj:∀(x:Nat) (t:Tm),l[x]?=some t->(l.map tv).take x++[tv t]=(l.map tv).take (x+1):=fun x t ht=>by
  rw[List.take_add_one,q_ji,ht];rfl
 generalize hM:l.map tv=M at *
 unfold Anc Ht Om;simp only[go_sem,seval];refine Ae Rq ?_;simp only[go_sem,seval];refine Kf (Xq c (nmG ns) G Q M m a b N) m (fun x hx=>?_) ?_
 ·cases x with
  |zero=>
   have c0:=(hQ 0).2.2;have hq:=Gj 0 _ (q3 0 h0);have hz:=Bz (T ns 2 (Q 0)).1;rw[List.take_zero,q_km] at hq;generalize (T ns 2 (Q 0)).1=t at *
   unfold Xq;simp only[go_sem,seval,q_jn (show (0:Int)<(m:Int) by omega)];refine Ai c0 ?_;simp only[go_sem,seval,hz];rw[<-hq];exact⟨h0,Cr (by simp[Cb])⟩
  |succ x=>
   by_cases Aq:x+1<m
   ·have c0:=(hQ (x+1)).2.2;have hq:=Gj (x+1) _ (q3 (x+1) Aq);have hz:=Bz (T ns 2 (Q (x+1))).1;generalize (T ns 2 (Q (x+1))).1=t at *
    have hw:IntKind.i64.wrap (((x+1:Nat):Int)+1)=((x+1+1:Nat):Int):=by rw[w64 (by unfold fit;omega)];omega
    unfold Xq;simp only[go_sem,seval,q_jn (show ((x+1:Nat):Int)<(m:Int) by omega)];refine Ai c0 ?_;have Eg:(M.take (x+1)).length=x+1:=by rw[q_kg];omega
    have hset:∀u v:List SV,(M.take (x+1)++[u]).set (x+1) v=M.take (x+1)++[v]:=fun u v=>by
     rw[List.set_append_right _ _ (by omega),Eg,Nat.sub_self,List.set_cons_zero]
    simp only[go_sem,seval,hz,hw,Eg,hset,hq];refine⟨⟨by omega,by omega⟩,⟨by omega,by omega⟩,by omega,Aq,?_⟩;exact Js 4 (by simp[Cb]) (by simp) (by simp[below]) (by simp[gOb,below])
   ·have:m=x+1:=by omega
    subst this;unfold Xq;simp only[go_sem,seval,q_je (show ¬((x+1:Nat):Int)<((x+1:Nat):Int) by omega),rtLn];have hMt:M.take (x+1)=M:=q_js (by omega);rw[hMt];exact⟨trivial,rfl,[.int .i64 23,.int .i64 a,.int .i64 b,.int .i64 N,.osl 3 x 0 (x+1)],false,fz _ 3 _,rfl,by simp,App rfl rfl rfl rfl hMt,by simp[fz]⟩
 ·unfold Xq;rw[hQ0,hD,q_k];exact Cr (by simp[Cb])
end
section
variable{c:RC}{T:TR}{f:Nat}{ns:List By}{s:RS}{nm:SV}{G:GV}
def Awl(hb:s.bad=true)(z:Int):Dc 156 (rdS c nm s::G) [.gp 0 0,.int .i64 z] (.ret (.tup [])) (rdS c nm s::G):=by
 refine Cl mixed Tryz.func156 tr156 ?_;obtain⟨sk,sb,sa,D⟩:=s;simp only at hb;subst hb;unfold rdS;simp only[go_sem,seval]
def Afj(hb:s.bad=false)(kd:Nat):An c s kd=((c.tk s.k).w,s.nx)/\s.k<c.L.length/\(c.tk s.k).k=kd\/∃a,An c s kd=([],{ s with bad:=true,at_:=a }):=by
 unfold An;split
 ·rename_i h;exact .inl ⟨rfl,h.2⟩
 ·right;unfold De;rw[hb,if_neg (by decide)];exact⟨_,rfl⟩
def Zn{k:Nat}{x:AccR}:Ef c T ns k 83 x s=(match Gx (An c s 3).1 symsL with|some n=>({ x with n:=n+1 },(An c s 3).2)|none=>(x,De c (An c s 3).2 ((An c s 3).2.k-1))):=rfl
def Aku{x:AccR}:Ef c T ns 23 77 x s=({ x with b:=(Cy c (c.L.length+1) s).1,l:=(Gm T ns (arN x.n) { (Cy c (c.L.length+1) s).2 with D:=[] }).1 },{ (Gm T ns (arN x.n) { (Cy c (c.L.length+1) s).2 with D:=[] }).2 with D:=s.D++[.int .i64 23,.int .i64 x.a,.int .i64 (Cy c (c.L.length+1) s).1,.int .i64 x.n,.dsl 5 ((Gm T ns (arN x.n) { (Cy c (c.L.length+1) s).2 with D:=[] }).1.map tv)]::(Gm T ns (arN x.n) { (Cy c (c.L.length+1) s).2 with D:=[] }).2.D }):=rfl
def Aie:Gx [] symsL=none:=rfl
def Amu{w:By}(h:Gx w symsL=none):Wq w=0:=by unfold Wq;rw[h]
def A3g{w:By}{n:Nat}(h:Gx w symsL=some n):Wq w=n+1:=by unfold Wq;rw[h]
def Ayi(hc:Fz c)(hT:TCG c T f)(Cc:ns.length+3*f+2<100000000000)(hb:s.bad=false)(hN:NGr s.D)(hG:NGr G)(hs:c.L.length<s.k+f):LCG c T ns 23 [83,76,77] s G:=by
 obtain⟨k0,b0,a0,D0⟩:=s;simp only at hs hN hb;subst hb;have c0:=Cj (nm:=nmG ns) (s:=⟨k0,false,a0,D0⟩) (G:=G++D0) hc 3;have hn:=hc.n;rcases Afj (c:=c) (s:=⟨k0,false,a0,D0⟩) rfl 3 with⟨h1,Aq,_⟩|⟨a,h1⟩
 rotate_left
 ·-- no word there
  have cs:=Ahy [];rw[Amu Aie] at cs;have cf:=Awl (c:=c) (nm:=nmG ns) (s:=⟨k0,true,a,D0⟩) (G:=G++D0) rfl (IntKind.i64.wrap ((k0:Int)-1));have ce:=Cj (nm:=nmG ns) (s:=⟨k0,true,a,D0⟩) (G:=G++D0) hc 2;have e1:De c ⟨k0,true,a,D0⟩ (k0-1)=⟨k0,true,a,D0⟩:=rfl;have eR:Aj c T ns 23 [83,76,77] ⟨k0,false,a0,D0⟩=(.mk 23 0 0 0 [],(An c ⟨k0,true,a,D0⟩ 2).2):=by simp only[Aj,Ax,Ay,Zn,h1,Aie,e1];rfl
  unfold LCG;rw[eR,Bm];refine⟨?_,Cp (c:=c) (s:=⟨k0,true,a,D0⟩) 2,hN⟩;refine Hg (r:=.agg true (tvn (.mk 23 0 0 0 []))) ?_ (Ip _);rw[Hv];rw[h1] at c0;refine Cl mixed Tryz.func190 tr190 ?_;unfold rdS at c0 cf ce |-;simp only at c0 cf ce |-;simp only[go_sem,seval];refine Ff 4 (Bk ?_)
  repeat' first
  |simp only[go_sem,seval,v83,v76,v77]
  |refine Ai c0 ?_
  |refine Ae cs ?_
  |refine Ai cf ?_
  |refine Bk ?_
  |refine Ai ce ?_
 ·rw[h1] at c0;unfold RS.nx at c0 h1;simp only at c0 h1 Aq;have cs:=Ahy (c.tk k0).w;cases hf:Gx (c.tk k0).w symsL with
  |none=>
   rw[Amu hf] at cs;have cf:=Ns (nm:=nmG ns) (s:=⟨k0+1,false,a0,D0⟩) (G:=G++D0) hc k0;have hw:=(atG hc Aq).w2;obtain⟨a,e1⟩:∃a,De c ⟨k0+1,false,a0,D0⟩ k0=⟨k0+1,true,a,D0⟩:=⟨_,rfl⟩
   rw[e1] at cf;have ce:=Cj (nm:=nmG ns) (s:=⟨k0+1,true,a,D0⟩) (G:=G++D0) hc 2;have eR:Aj c T ns 23 [83,76,77] ⟨k0,false,a0,D0⟩=(.mk 23 0 0 0 [],(An c ⟨k0+1,true,a,D0⟩ 2).2):=by simp only[Aj,Ax,Ay,Zn,h1,hf,Nat.add_sub_cancel,e1];rfl
   unfold LCG;rw[eR,Bm];refine⟨?_,q_ko (Nat.le_succ k0) (Cp (c:=c) (s:=⟨k0+1,true,a,D0⟩) 2),hN⟩;refine Hg (r:=.agg true (tvn (.mk 23 0 0 0 []))) ?_ (Ip _);rw[Hv];refine Cl mixed Tryz.func190 tr190 ?_;unfold rdS at c0 cf ce |-;simp only at c0 cf ce |-;simp only[go_sem,seval];refine Ff 4 (Bk ?_)
   repeat' first
   |simp only[go_sem,seval,v83,v76,v77,hw]
   |refine Ai c0 ?_
   |refine Ae cs ?_
   |refine Ai cf ?_
   |refine Bk ?_
   |refine Ai ce ?_
  |some n=>
   have Ajx:n<21:=(q_jm.1 (findG hf).1).1;rw[A3g hf] at cs;have n0:(((n+1:Nat):Int)==0)=false:=by rw[beq_eq_false_iff_ne];omega
   have c1:=Li (nm:=nmG ns) (G:=G++D0) hc (c.L.length+1) ⟨k0+1,false,a0,D0⟩ (q_ja _) (by simp only;omega) (by omega);have d1:=(Ll (c:=c) (c.L.length+1) ⟨k0+1,false,a0,D0⟩).symm;have m1:=Kw (c:=c) (c.L.length+1) ⟨k0+1,false,a0,D0⟩;generalize e1:Cy c (c.L.length+1) ⟨k0+1,false,a0,D0⟩=q at c1 d1 m1;obtain⟨u,k2,b2,a2,E2⟩:=q;simp only at c1 d1 m1;subst d1;cases b2;rotate_left
   ·have ce:=Cj (nm:=nmG ns) (s:=⟨k2,true,a2,D0⟩) (G:=G++D0) hc 2;have eR:Aj c T ns 23 [83,76,77] ⟨k0,false,a0,D0⟩=(.mk 23 (u:Nat) (0:Nat) ((n+1:Nat):Int) [],(An c ⟨k2,true,a2,D0⟩ 2).2):=by simp only[Aj,Ax,Ay,Zn,Bq,h1,hf,e1];rfl
    unfold LCG;rw[eR,Bm];refine⟨?_,q_ko (by simp only;omega) (Cp (c:=c) (s:=⟨k2,true,a2,D0⟩) 2),hN⟩;refine Hg (r:=.agg true (tvn (.mk 23 (u:Nat) (0:Nat) ((n+1:Nat):Int) []))) ?_ (Ip _);rw[Hv];refine Cl mixed Tryz.func190 tr190 ?_;unfold rdS at c0 c1 ce |-;simp only at c0 c1 ce |-;simp only[go_sem,seval];refine Ff 4 (Bk ?_)
    repeat' first
    |simp only[go_sem,seval,v83,v76,v77,n0]
    |refine Ai c0 ?_
    |refine Ae cs ?_
    |refine Ai c1 ?_
    |refine Bk ?_
    |refine Ai ce ?_
   ·have c2:=Li (nm:=nmG ns) (G:=(G++D0)++[Om (u:Nat) 0 ((n+1:Nat):Int) .nils]) hc (c.L.length+1) ⟨k2,false,a2,D0⟩ (q_ja _) (by simp only;omega) (by omega);have d2:=(Ll (c:=c) (c.L.length+1) ⟨k2,false,a2,D0⟩).symm;have m2:=Kw (c:=c) (c.L.length+1) ⟨k2,false,a2,D0⟩;generalize e2:Cy c (c.L.length+1) ⟨k2,false,a2,D0⟩=q at c2 d2 m2;obtain⟨v,k3,b3,a3,E3⟩:=q;simp only at c2 d2 m2;subst d2;have cg:=Awn (c:=c) (ns:=ns) (G:=G++D0) hT (by omega) (hG.app hN) (s:=⟨k3,b3,a3,[]⟩) (by simp only;omega) rfl Ajx (u:Nat) (v:Nat);obtain⟨g1,g2,g3⟩:=Alg T ns (arN (n+1)) ⟨k3,b3,a3,[]⟩;have gq:=Amj hT (ns:=ns) (G:=G) (by omega) hG (arN (n+1)) ⟨k3,b3,a3,[]⟩ (by simp only;omega) .nil;rw[<-g1] at gq;obtain⟨gk,gN,_⟩:=gq;have h0:=(arG n Ajx).2.1;generalize e3:Gm T ns (arN (n+1)) ⟨k3,b3,a3,[]⟩=q at cg g1 g2 g3 gk gN;obtain⟨l,k4,b4,a4,D4⟩:=q;simp only at cg gk gN g2;obtain⟨t0,l0,rfl⟩:∃t0 l0,l=t0::l0:=by
     cases l with
     |nil=>rw[List.length_nil] at g2;omega
     |cons t0 l0=>exact⟨t0,l0,rfl⟩
    have ce:=Cj (nm:=nmG ns) (s:=⟨k4,b4,a4,D0++Om (u:Nat) (v:Nat) ((n+1:Nat):Int) (.dsl 5 ((t0::l0).map tv))::D4⟩) (G:=(G++D0)++Om (u:Nat) (v:Nat) ((n+1:Nat):Int) (.dsl 5 ((t0::l0).map tv))::D4) hc 2;have eR:Aj c T ns 23 [83,76,77] ⟨k0,false,a0,D0⟩=(.mk 23 (u:Nat) (v:Nat) ((n+1:Nat):Int) (t0::l0),(An c ⟨k4,b4,a4,D0++Om (u:Nat) (v:Nat) ((n+1:Nat):Int) (.dsl 5 ((t0::l0).map tv))::D4⟩ 2).2):=by
     simp only[Aj,Ax,Az,Zn,Bq,Aku,h1,hf,e1,e2,e3];rfl
    unfold LCG;rw[eR,Bm];refine⟨?_,q_ko (by simp only;omega) (Cp (c:=c) 2),hN.app (.cons (Afk (Alm _)) gN)⟩;refine Hg (r:=.agg true (tvn (.mk 23 (u:Nat) (v:Nat) ((n+1:Nat):Int) (t0::l0)))) ?_ (Ip _);rw[Ds,<-q_ju];generalize hGG:G++D0=GG at *
    have i0:∀(x y:List SV) (D:GV),(x::(GG++y::D))[GG.length+1]?=some y:=fun x y D=>by simp
    have i1:∀(x y y':List SV) (D:GV),(x::(GG++y::D)).set (GG.length+1) y'=x::(GG++y'::D):=fun x y y' D=>by simp
    refine Cl mixed Tryz.func190 tr190 ?_;unfold Om at c2 cg ce |-;unfold rdS nmG at c0 c1 c2 cg ce |-;simp only at c0 c1 c2 cg ce |-;simp only[go_sem,seval];refine Ff 4 (Bk ?_);simp only[go_sem,seval,v83,v76,v77];refine Ai c0 ?_;simp only[go_sem,seval,v83,v76,v77];refine Ae cs ?_;simp only[go_sem,seval,n0,v83,v76,v77];refine Bk ?_;simp only[go_sem,seval,v83,v76,v77];refine Ai c1 ?_;simp only[go_sem,seval,v83,v76,v77];refine A5a (.promo _ 2 _ _ _ rfl rfl rfl rfl rfl rfl (by simp) (by simp) (by simp[Aa8,Og]) (fun q ob' h1 h2 h3 h4=>?_)) ?_
    ·match q,h1 with
     |0,h1=>cases h1;cases h3
     |1,h1=>cases h1;cases h4
     |2,_=>exact absurd rfl h2
     |q+3,h1=>simp at h1
    simp only[q_h,q_i,Uc,reduceIte,Nat.reduceEqDiff,List.set_cons_zero,List.set_cons_succ];refine Bk ?_
    repeat' first
    |simp only[go_sem,seval,Po,v83,v76,v77,i0,i1,q_jk,List.length_nil]
    |refine Ai c2 ?_
    |refine Ai cg ?_
    |refine Bk ?_
    |refine Ai ce ?_
    all_goals rfl
end
def Avp{w:By}:∀{l:List (By×Nat×By)} {p:Nat×By},Lg w l=some p->(w,p)∈l:=by
 intro l
 induction l with
 |nil=>intro p h;cases h
 |cons a l ih=>
  obtain⟨v,k,s⟩:=a;intro p h;rw[Ac6] at h;split at h
  ·rename_i hv;cases h;rw[hv];exact List.mem_cons_self
  ·exact List.mem_cons_of_mem _ (ih h)
def Ac7(w:By):Mn w=(0,[])\/(w,Mn w)∈formsG:=by
 unfold Mn;cases h:Lg w formsG with
 |none=>exact .inl rfl
 |some p=>exact .inr (Avp h)
section
variable{c:RC}{T:TR}{f:Nat}{ns:List By}{s:RS}{nm:SV}{G:GV}
def Ayj(hc:Fz c)(hT:TCG c T f)(Cc:ns.length+3*f+2<100000000000)(hb:s.bad=false)(hN:NGr s.D)(hG:NGr G)(hs:c.L.length<s.k+f){w:By}{k:Nat}{sh:By}(h:(w,k,sh)∈formsG):LCG c T ns k sh s G:=by
 simp only[formsG,q_kb,q_kc,or_false,Prod.mk.injEq] at h;rcases h with⟨_,rfl,rfl⟩|⟨_,rfl,rfl⟩|⟨_,rfl,rfl⟩|⟨_,rfl,rfl⟩|⟨_,rfl,rfl⟩|⟨_,rfl,rfl⟩|⟨_,rfl,rfl⟩|⟨_,rfl,rfl⟩|⟨_,rfl,rfl⟩|⟨_,rfl,rfl⟩|⟨_,rfl,rfl⟩|⟨_,rfl,rfl⟩|⟨_,rfl,rfl⟩|⟨_,rfl,rfl⟩|⟨_,rfl,rfl⟩|⟨_,rfl,rfl⟩|⟨_,rfl,rfl⟩|⟨_,rfl,rfl⟩|⟨_,rfl,rfl⟩|⟨_,rfl,rfl⟩|⟨_,rfl,rfl⟩|⟨_,rfl,rfl⟩
 ·exact lg_L hc hT Cc (by decide) hb hN hG hs
 ·exact Ak6 hc hT Cc (by decide) hb hN hG hs
 ·exact Aye hc hT Cc (by decide) hb hN hG hs
 ·exact Ak8 hc hT Cc (by decide) hb hN hG hs
 ·exact Ak6 hc hT Cc (by decide) hb hN hG hs
 ·exact Ak8 hc hT Cc (by decide) hb hN hG hs
 ·exact Ak7 hc hT Cc (by decide) hb hN hG hs
 ·exact Ak7 hc hT Cc (by decide) hb hN hG hs
 ·exact Ayh hc hT Cc (by decide) hb hN hG hs
 ·exact Ayf hc hT Cc (by decide) hb hN hG hs
 ·exact Ayg hc hT Cc (by decide) hb hN hG hs
 ·exact Afa hc hT Cc (by decide) hb hN hG hs
 ·exact Afa hc hT Cc (by decide) hb hN hG hs
 ·exact Ak9 hc hT Cc (by decide) hb hN hG hs
 ·exact Afa hc hT Cc (by decide) hb hN hG hs
 ·exact Aym hc hT Cc (by decide) hb hN hG hs
 ·exact lg_t hc hT Cc (by decide) hb hN hG hs
 ·exact lg_t hc hT Cc (by decide) hb hN hG hs
 ·exact Ayk hc hT Cc (by decide) hb hN hG hs
 ·exact Ak9 hc hT Cc (by decide) hb hN hG hs
 ·exact Ayl hc hT Cc (by decide) hb hN hG hs
 ·exact Ayi hc hT Cc hb hN hG hs
def Azh:s.k<=(Kx c ns s).2.k/\(Kx c ns s).2.D=s.D:=by
 unfold Kx;split
 ·exact⟨Nat.le_succ _,rfl⟩
 ·exact⟨by rw[Rb];exact q_ja _,Ra _⟩
def Amw(hc:Fz c):∀(f:Nat),0<f->TCG c (Fj c f) f:=by
 intro f
 induction f with
 |zero=>intro h;omega
 |succ f ih=>
  intro _ ns want s G hs Cc hw hN hG;have Hs:∀{G G'} (a:Dc 155 G [.gp 0 0,.int .i64 want] (.ret (.agg true [.int .i64 0,.int .i64 0,.int .i64 0,.int .i64 0,.nils])) G'),Dc 155 G [.gp 0 0,.int .i64 want] (.ret (.agg true (tv zR))) G':=fun a=>Hg a (Tx _ _ _ _)
  obtain⟨k,b,a,D⟩:=s;simp only at hs hN;cases b;rotate_left
  ·rw[show Fj c (f+1) ns want ⟨k,true,a,D⟩=(zR,⟨k,true,a,D⟩) from rfl];refine⟨Hs ?_,q_ja _,hN⟩;refine Cl mixed Tryz.func155 tr155 ?_;unfold rdS;simp only[go_sem,seval]
  have hn:=hc.n;have a10:(c.L.length<=140737488355328)=True:=by simp;omega
  by_cases h:k<c.L.length
  rotate_left
  ·have e:Fj c (f+1) ns want ⟨k,false,a,D⟩=(zR,De c ⟨k,false,a,D⟩ k):=by unfold Fj;rw[if_neg (by simp),if_pos h]
   rw[e,Ra];have cf:=Ns (nm:=nmG ns) (s:=⟨k,false,a,D⟩) (G:=G++D) hc k;refine⟨Hs ?_,by rw[Rb];exact q_ja _,hN⟩;refine Cl mixed Tryz.func155 tr155 ?_;unfold rdS at cf |-;simp only[go_sem,seval,a10,q_jn (show (k:Int) >= (c.L.length:Int) by omega),q_g,forall_const];refine Ai cf ?_;simp only[go_sem,seval]
  obtain⟨a1,a2,a3,a4,a6,a7,a8,a9,a10⟩:=atG hc h
  by_cases Hf:(c.tk k).k=3
  ·have k3:(((c.tk k).k:Int)==3)=true:=by simp[Hf]
   have e:Fj c (f+1) ns want ⟨k,false,a,D⟩=Kx c ns ⟨k,false,a,D⟩:=by unfold Fj;rw[if_neg (by simp),if_neg (by simpa using h),if_pos Hf]
   have cn:=Aws (ns:=ns) (G:=G++D) hc (by omega) (s:=⟨k,false,a,D⟩) rfl h;obtain⟨n1,n2⟩:=Azh (c:=c) (ns:=ns) (s:=⟨k,false,a,D⟩);rw[e,n2];refine⟨?_,n1,hN⟩;refine Cl mixed Tryz.func155 tr155 ?_;unfold rdS at cn |-;simp only[go_sem,seval,a1,a2,a3,a4,a10,q_je a8,q_g,k3,forall_const];refine Ai cn ?_;simp only[go_sem,seval]
  have k3:(((c.tk k).k:Int)==3)=false:=by simp;omega
  have e:Fj c (f+1) ns want ⟨k,false,a,D⟩=(let s1:=(An c ⟨k,false,a,D⟩ 1).2;let q:=An c s1 3;let g:=Mn q.1;if q.2.bad then (zR,q.2) else if g.1=0\/(want=1/\12<g.1)\/(want=2/\2<g.1/\g.1<=12) then (zR,De c q.2 s1.k) else Aj c (Fj c f) ns g.1 g.2 q.2):=by
   conv=>lhs;unfold Fj
   rw[if_neg (by simp),if_neg (by simpa using h),if_neg Hf]
  have c1:=Cj (nm:=nmG ns) (s:=⟨k,false,a,D⟩) (G:=G++D) hc 1;have d1:=(Bm (c:=c) (s:=⟨k,false,a,D⟩) 1).symm;have m1:=Cp (c:=c) (s:=⟨k,false,a,D⟩) 1;generalize An c ⟨k,false,a,D⟩ 1=q at c1 d1 m1 e;obtain⟨w1,k1,b1,x1,E1⟩:=q;simp only at c1 d1 m1 e;subst d1;have c2:=Cj (nm:=nmG ns) (s:=⟨k1,b1,x1,D⟩) (G:=G++D) hc 3;have d2:=(Bm (c:=c) (s:=⟨k1,b1,x1,D⟩) 3).symm;have m2:=Cp (c:=c) (s:=⟨k1,b1,x1,D⟩) 3;have Adt:b1=false->(An c ⟨k1,b1,x1,D⟩ 3).2.bad=false->k1<(An c ⟨k1,b1,x1,D⟩ 3).2.k:=fun hb1 Dy=>by
   subst hb1;rcases Afj (c:=c) (s:=⟨k1,false,x1,D⟩) rfl 3 with⟨h1,_⟩|⟨a,h1⟩
   ·rw[h1];exact Nat.lt_succ_self _
   ·rw[h1] at Dy;cases Dy
  have Adr:b1=true->(An c ⟨k1,b1,x1,D⟩ 3).2.bad=true:=fun hb1=>by rw[Alk hb1];exact hb1
  generalize An c ⟨k1,b1,x1,D⟩ 3=q at c2 d2 m2 e Adt Adr;obtain⟨w2,k2,b2,x2,E2⟩:=q;simp only at c2 d2 m2 e Adt Adr;subst d2;have cfm:=Ap3 w2;rw[e];cases b2;rotate_left
  ·rw[if_pos rfl];refine⟨Hs ?_,by simp only;omega,hN⟩;refine Cl mixed Tryz.func155 tr155 ?_;unfold rdS at c1 c2 |-;simp only at c1 c2 |-
   repeat' first
   |simp only[go_sem,seval,a1,a2,a3,a4,a10,q_je a8,q_g,k3,forall_const]
   |refine Ai c1 ?_
   |refine Ai c2 ?_
   |refine Ae cfm ?_
  rw[if_neg (by simp)];have hb1:b1=false:=by
   cases b1
   ·rfl
   ·exact absurd (Adr rfl) (by simp)
  have Fm:=Adt hb1 rfl;have cf:=Ns (nm:=nmG ns) (s:=⟨k2,false,x2,D⟩) (G:=G++D) hc k1;have Ms:=Ac7 w2;generalize Mn w2=g at cfm Ms;obtain⟨gk,gs'⟩:=g;simp only at cfm
  by_cases hg:gk=0\/(want=1/\12<gk)\/(want=2/\2<gk/\gk<=12)
  ·rw[if_pos hg];rw[Ra];refine⟨Hs ?_,by rw[Rb];simp only;omega,hN⟩;refine Cl mixed Tryz.func155 tr155 ?_;unfold rdS at c1 c2 cf |-;simp only at c1 c2 cf |-;rcases hg with rfl|⟨rfl,hg⟩|⟨rfl,hg1,Im⟩
   ·repeat' first
    |simp only[go_sem,seval,a1,a2,a3,a4,a10,q_je a8,q_g,k3,forall_const]
    |refine Ai c1 ?_
    |refine Ai c2 ?_
    |refine Ae cfm ?_
    |refine Ai cf ?_
   ·have g0:((gk:Int)==0)=false:=by rw[beq_eq_false_iff_ne];omega
    repeat' first
    |simp only[go_sem,seval,a1,a2,a3,a4,a10,q_je a8,q_g,k3,g0,q_jn (show (gk:Int) > 12 by omega),forall_const]
    |refine Ai c1 ?_
    |refine Ai c2 ?_
    |refine Ae cfm ?_
    |refine Ai cf ?_
   ·have g0:((gk:Int)==0)=false:=by rw[beq_eq_false_iff_ne];omega
    repeat' first
    |simp only[go_sem,seval,a1,a2,a3,a4,a10,q_je a8,q_g,k3,g0,q_jn (show (gk:Int) > 2 by omega),q_jn (show (gk:Int)<=12 by omega),forall_const]
    |refine Ai c1 ?_
    |refine Ai c2 ?_
    |refine Ae cfm ?_
    |refine Ai cf ?_
  ·rw[if_neg hg];have hmem:(w2,gk,gs')∈formsG:=by
    rcases Ms with Ms|Ms
    ·cases Ms;exact absurd (.inl rfl) hg
    ·exact Ms
   obtain⟨cl,l2,l3⟩:=Ayj (ns:=ns) (s:=⟨k2,false,x2,D⟩) (G:=G) hc (ih (by omega)) (by omega) rfl hN hG (by simp only;omega) hmem;refine⟨?_,q_ko (by simp only;omega) l2,l3⟩;refine Cl mixed Tryz.func155 tr155 ?_;unfold rdS at c1 c2 cl |-;simp only at c1 c2 cl |-;have g0:((gk:Int)==0)=false:=by rw[beq_eq_false_iff_ne];omega
   have h3:want=0\/want=1\/want=2:=by omega
   rcases h3 with rfl|rfl|rfl
   ·repeat' first
    |simp only[go_sem,seval,a1,a2,a3,a4,a10,q_je a8,q_g,k3,g0,forall_const]
    |refine Ai c1 ?_
    |refine Ai c2 ?_
    |refine Ae cfm ?_
    |refine Ai cl ?_
   ·repeat' first
    |simp only[go_sem,seval,a1,a2,a3,a4,a10,q_je a8,q_g,k3,g0,q_je (show ¬(gk:Int) > 12 by omega),forall_const]
    |refine Ai c1 ?_
    |refine Ai c2 ?_
    |refine Ae cfm ?_
    |refine Ai cl ?_
   ·by_cases Im:2<gk
    ·repeat' first
     |simp only[go_sem,seval,a1,a2,a3,a4,a10,q_je a8,q_g,k3,g0,q_jn (show (gk:Int) > 2 by omega),q_je (show ¬(gk:Int)<=12 by omega),forall_const]
     |refine Ai c1 ?_
     |refine Ai c2 ?_
     |refine Ae cfm ?_
     |refine Ai cl ?_
    ·repeat' first
     |simp only[go_sem,seval,a1,a2,a3,a4,a10,q_je a8,q_g,k3,g0,q_je (show ¬(gk:Int) > 2 by omega),forall_const]
     |refine Ai c1 ?_
     |refine Ai c2 ?_
     |refine Ae cfm ?_
     |refine Ai cl ?_
end
def Ayb(l:By):Le (.tup (Ak4 (Ce l))) (.tup [.dsl 3 ((Do l).map Hk),.int .i64 (match (Ce l).2 with|none=>0|some _=>2),.int .i64 (match (Ce l).2 with|none=>0|some p=>(p:Int))]):=by
 unfold Do;obtain⟨ts,e⟩:=Ce l;have key:∀(ts:List Tok) (a b:SV),Le (.tup [Ah6 3 (ts.map Hk),a,b]) (.tup [.dsl 3 (ts.map Hk),a,b]):=fun ts a b=>by
  refine .tup _ _ (.cons _ _ _ _ (.cell _ _ ?_) (.cons _ _ _ _ (.cell _ _ (.refl _)) (.cons _ _ _ _ (.cell _ _ (.refl _)) .nil)));cases ts with
  |nil=>exact .nils 3
  |cons t ts=>exact .refl _
 cases e with
 |none=>exact key ts _ _
 |some p=>exact key [] _ _
def o9{l:By}(hl:l.length<100000000000):Con 39 [.str (bs l)] (.tup [.dsl 3 ((Do l).map Hk),.int .i64 (match (Ce l).2 with|none=>0|some _=>2),.int .i64 (match (Ce l).2 with|none=>0|some p=>(p:Int))]):=
 (Aqb (by omega)).weaken (Ayb l)
def i7(l:By):(Do l).length<=l.length:=by
 have h:=(Mz l).le;unfold Do;generalize Ce l=R at *
 obtain⟨ts,e⟩:=R;cases e with
 |none=>simp only at h |-;omega
 |some p=>simp
def Kz:Tm×Option Nat->List SV
 |(t,none)=>[.agg true (tv t),.int .i64 0,.int .i64 0]
 |(_,some p)=>[.agg true (tv zR),.int .i64 2,.int .i64 p]
def Ud:Tm×Option Nat->List SV
 |(t,none)=>[.agg true (tv t),.int .i64 0,.int .i64 0]
 |(_,some p)=>[.agg true (tvn zR),.int .i64 2,.int .i64 p]
def A1f(r:Tm×Option Nat):Le (.tup (Ud r)) (.tup (Kz r)):=by
 obtain⟨t,e⟩:=r;have lr:∀x:SV,Lev x x:=fun x=>.cell _ _ (.refl _)
 cases e with
 |none=>exact .tup _ _ (.cons _ _ _ _ (lr _) (.cons _ _ _ _ (lr _) (.cons _ _ _ _ (lr _) .nil)))
 |some p=>
  refine .tup _ _ (.cons _ _ _ _ ?_ (.cons _ _ _ _ (lr _) (.cons _ _ _ _ (lr _) .nil)));have:=Ip zR;cases this with
  |val _ _ h=>exact h
def Azl(r:Tm×Option Nat):NoG (.tup (Ud r)):=by
 obtain⟨t,e⟩:=r;cases e with
 |none=>exact .tup _ (fun x hx=>by
   simp only[Ud,q_kb,q_kc,or_false] at hx;rcases hx with rfl|rfl|rfl
   ·exact Qm t true
   ·exact .int _ _
   ·exact .int _ _)
 |some p=>exact .tup _ (fun x hx=>by
   simp only[Ud,q_kb,q_kc,or_false] at hx;rcases hx with rfl|rfl|rfl
   ·exact .agg _ _ (fun x hx=>by
     simp only[tvn,zR,q_kb,q_kc,or_false] at hx;rcases hx with rfl|rfl|rfl|rfl|rfl
     ·exact .int _ _
     ·exact .int _ _
     ·exact .int _ _
     ·exact .int _ _
     ·exact .nils)
   ·exact .int _ _
   ·exact .int _ _)
def A1e{t:Tm}:Ud (t,none)=[.agg true (tv t),.int .i64 0,.int .i64 0]:=rfl
def Abb{t:Tm}{p:Nat}:Ud (t,some p)=[.agg true [.int .i64 0,.int .i64 0,.int .i64 0,.int .i64 0,.nils],.int .i64 2,.int .i64 p]:=rfl
def Aqx{tx:By}{ns:List By}(Cc:ns.length<=1000000000)(Za:tx.length<1000000000){i j:Nat}(hi:i<=1000)(hj:j<=1000) :
  Con 125 [.str (bs tx),nmG ns,.int .i64 i,.int .i64 j] (.tup (Kz (Hu tx ns i j))):=by
 have hL:=i7 tx;have c0:=o9 (l:=tx) (by omega);have hle:=(Mz tx).le.2.2;have Fs:∀x∈[SV.str (bs tx),nmG ns,.int .i64 i,.int .i64 j],NoG x:=fun x hx=>by
  simp only[q_kb,q_kc,or_false] at hx;rcases hx with rfl|rfl|rfl|rfl
  ·exact .str _
  ·exact Aln _
  ·exact .int _ _
  ·exact .int _ _
 have i3:¬(i:Int)<0:=by omega
 have i4:¬(j:Int)<0:=by omega
 have i5:¬(i:Int) > 1000:=by omega
 have i6:¬(j:Int) > 1000:=by omega
 refine Contract.weaken (r:=.tup (Ud _)) ?_ (A1f _);refine Acx mixed Tryz.func125 tr125 Fs (Azl _) ?_;clear Fs;unfold Hu rcR;cases hx:(Ce tx).2 with
 |none=>
  rw[hx] at c0;simp only at c0 |-;have hc:Fz ⟨Do tx,tx.length,i,j⟩:=⟨by simp only;omega,hi,hj⟩
  obtain⟨c1,m1,n1⟩:=Amw hc ((Do tx).length+1) (Nat.succ_pos _) ns 0 ⟨0,false,0,[]⟩ [] (by simp only;omega) (by omega) (by omega) .nil .nil;generalize Fj ⟨Do tx,tx.length,i,j⟩ ((Do tx).length+1) ns 0 ⟨0,false,0,[]⟩=q at *
  obtain⟨t,k,b,a,D⟩:=q;simp only[q_km] at c1 m1 n1 |-;have cf:=Ns (nm:=nmG ns) (s:=⟨k,b,a,D⟩) (G:=D) hc k;have hb:((Do tx).length<=140737488355328)=True:=by simp;omega
  unfold rdS nmG at *
  simp only at *
  cases b
  ·by_cases hk:k<(Do tx).length
   ·have Ho:(De ⟨Do tx,tx.length,i,j⟩ ⟨k,false,a,D⟩ k).bad=true:=rfl;simp only[hk,eq_self,true_or,true_and,and_self,if_true,Ho,Abb];generalize De ⟨Do tx,tx.length,i,j⟩ ⟨k,false,a,D⟩ k=sf at *
    have Fh:(k:Int)<((Do tx).length:Int):=by omega
    repeat' first
    |simp only[go_sem,seval,i3,i4,q_je i5,q_je i6,q_g,hb,Fh,Ho,forall_const]
    |refine Ae c0 ?_
    |refine Ai c1 ?_
    |refine Ai cf ?_
   ·have Fh:¬(k:Int)<((Do tx).length:Int):=by omega
    simp only[hk,Option.isSome_none,q_kx,or_self,and_false,if_false,A1e]
    repeat' first
    |simp only[go_sem,seval,i3,i4,q_je i5,q_je i6,q_g,hb,Fh,forall_const]
    |refine Ae c0 ?_
    |refine Ai c1 ?_
  ·simp only[Bool.true_eq_false,false_and,if_false,if_true,Abb]
   repeat' first
   |simp only[go_sem,seval,i3,i4,q_je i5,q_je i6,q_g,hb,forall_const]
   |refine Ae c0 ?_
   |refine Ai c1 ?_
 |some p=>
  obtain⟨hp,_⟩:=hle p hx;rw[hx] at c0;have hL2:=i7 (tx.take p);rw[q_kg] at hL2;have c02:=o9 (l:=tx.take p) (by rw[q_kg];omega);generalize (match (Ce (tx.take p)).2 with|none=>(0:Int)|some _=>2)=z1 at c02;generalize (match (Ce (tx.take p)).2 with|none=>(0:Int)|some p=>(p:Int))=z2 at c02;simp only at c0 |-;generalize Do (tx.take p)=L2 at *
  have hc:Fz ⟨L2,p,i,j⟩:=⟨by simp only;omega,hi,hj⟩
  obtain⟨c1,m1,n1⟩:=Amw hc (L2.length+1) (Nat.succ_pos _) ns 0 ⟨0,false,0,[]⟩ [] (by simp only;omega) (by omega) (by omega) .nil .nil;generalize Fj ⟨L2,p,i,j⟩ (L2.length+1) ns 0 ⟨0,false,0,[]⟩=q at *
  obtain⟨t,k,b,a,D⟩:=q;simp only[q_km] at c1 m1 n1 |-;have cf:=Ns (nm:=nmG ns) (s:=⟨k,b,a,D⟩) (G:=D) hc k;have hb:((Do tx).length<=140737488355328)=True:=by simp;omega
  have Dy:(L2.length<=140737488355328)=True:=by simp;omega
  have g0:(0:Int)<=(p:Int):=by omega
  have g1:(p:Int)<=(tx.length:Int):=by omega
  have g2:p<=tx.length:=by omega
  unfold rdS nmG at *
  simp only at *
  cases b
  ·have Ho:(De ⟨L2,p,i,j⟩ ⟨k,false,a,D⟩ k).bad=true:=rfl;simp only[eq_self,Option.isSome_some,or_true,true_and,and_self,if_true,Ho,Abb];generalize De ⟨L2,p,i,j⟩ ⟨k,false,a,D⟩ k=sf at *
   by_cases Fh:(k:Int)<(L2.length:Int)
   ·repeat' first
    |simp only[go_sem,seval,i3,i4,q_je i5,q_je i6,q_g,hb,Dy,g0,g1,g2,Fh,Ho,forall_const,List.drop_zero,q_kr]
    |refine Ae c0 ?_
    |refine Ae c02 ?_
    |refine Ai c1 ?_
    |refine Ai cf ?_
   ·repeat' first
    |simp only[go_sem,seval,i3,i4,q_je i5,q_je i6,q_g,hb,Dy,g0,g1,g2,Fh,Ho,forall_const,List.drop_zero,q_kr]
    |refine Ae c0 ?_
    |refine Ae c02 ?_
    |refine Ai c1 ?_
    |refine Ai cf ?_
  ·simp only[Bool.true_eq_false,false_and,if_false,if_true,Abb]
   repeat' first
   |simp only[go_sem,seval,i3,i4,q_je i5,q_je i6,q_g,hb,Dy,g0,g1,g2,forall_const,List.drop_zero,q_kr]
   |refine Ae c0 ?_
   |refine Ae c02 ?_
   |refine Ai c1 ?_
def Fw(k i j n want:Int)(len:Nat):Bool:=(!(want != 0) || (!(Ge k != 0) || !(Ge k != want))) && (!((len:Int) != Fc k n) && Id k i j n)
def ofN(k:Int)(i:Nat):Int:=if k=12/\i=2 then 2 else Ge k
def Aq2(k i j n want:Int)(rows:GV)(W:Nat->List SV->Bool)(h2:rows.length*56<=140737488355328)(h5:∀r∈rows,r.length=5)
  (H:∀p,∀r∈rows,Con 56 [.agg true r,.int .i64 (ofN k p)] (.bool (W p r))) :
  Con 56 [.agg true [.int .i64 k,.int .i64 i,.int .i64 j,.int .i64 n,.dsl 5 rows],.int .i64 want] (.bool (Fw k i j n want rows.length && Gg W 0 rows)):=by
 refine Bt mixed Tryz.func56 tr56 ?_;simp only[go_sem,seval];refine Ae (Arl k) ?_;simp only[go_sem,seval];unfold Fw;cases hw:(want != 0)<;>cases hs:(Ge k != 0)<;>cases hd:(Ge k != want)<;>simp only[go_sem,seval,hs,hd]
 all_goals
  refine Ae (Ahf k n) ?_;cases hK:((rows.length:Int) != Fc k n)<;>simp only[go_sem,seval,hK];refine Ae (Aqh k i j n rows) ?_;cases hN:Id k i j n<;>simp only[go_sem,seval,hN];intros;refine Ul (fun x=>⟨(.J::.J::.ref 0 0 0 0::.J::.J::.int .i64 (Ge k)::Fb (.dsl 5 rows::.int .i64 rows.length::.int .i64 x::Fa (.J::[]))),[⟨true,5,[[.int .i64 k,.int .i64 i,.int .i64 j,.int .i64 n,.dsl 5 rows]],0,0,true⟩]⟩) rows.length (fun x=>W x (rows[x]?.getD [])=true) (fun x hx hp=>?_) ?_
  ·simp only[go_sem,seval,Ald,Alc,Ale];refine⟨fun h=>?_,fun h=>?_⟩
   ·have Aq:=q_ku h;have El:x<rows.length:=by omega
    have e0:(0:Int)<=(x:Int):=by omega
    have hm:=Fg (d:=[]) El;have Iv:=h5 _ hm;have ho:=H x _ hm;have eo:ofN k x=bif (k==12) && ((x:Int)==2) then 2 else Ge k:=by
     unfold ofN
     by_cases a:k=12
     ·by_cases b:x=2
      ·subst b;rw[if_pos ⟨a,rfl⟩,a];rfl
      ·rw[if_neg (fun h=>b h.2),Bh (show (x:Int)≠2 by omega),q_lb];rfl
     ·rw[if_neg (fun h=>a h.1),Bh a,q_lc];rfl
    simp only[go_sem,seval,Aq,e0,Iv];cases Nm:(k==12)<;>cases Ha:((x:Int)==2)<;>simp only[go_sem,seval,Ha]
    all_goals
     simp only[Nm,Ha,q_l,q_lb,q_la,q_lc,cond_true,cond_false] at eo;rw[eo] at ho;refine Ae ho ?_;cases hW:W x (rows[x]?.getD [])<;>simp only[go_sem,seval]
     ·rw[Wz (d:=[]) (i:=x) El (by rw[q_jg];exact hW)]
     ·refine⟨El,?_⟩;rw[w64 (n:=(x:Int)+1) (by unfold fit;omega)];exact Js 1 (by simp[Cb]) (by simp only[List.take_succ_cons,List.take_zero]) (by simp[below]) (by simp)
   ·have Hz:=q_kv h;have Oc:x=rows.length:=by omega
    simp only[go_sem,seval,h];rw[l8 (d:=[]) (f:=W) (fun j hj=>by rw[q_jg];exact hp j (by omega))]
  ·exact Cr (by simp[Cb])
def Ay3{l:List Tm}(ih:∀a∈l,∀b,tv a=tv b->a=b):∀{r:List Tm},l.map tv=r.map tv->l=r:=by
 induction l with
 |nil=>intro r h;cases r with
  |nil=>rfl
  |cons b r=>simp at h
 |cons a l ihl=>
  intro r h;cases r with
  |nil=>simp at h
  |cons b r=>
   simp only[q_h,List.cons.injEq] at h;rw[ih a (by simp) b h.1,ihl (fun x hx=>ih x (by simp[hx])) h.2]
def A4h(a:Tm):∀b,tv a=tv b->a=b:=by
 induction a using Tm.ind with
 |h k i j n l ih=>
  intro b h;cases b with
  |mk k' i' j' n' l'=>
   rw[Bp,Bp] at h;simp only[List.cons.injEq,SV.int.injEq,SV.dsl.injEq,true_and,and_true] at h;obtain⟨rfl,rfl,rfl,rfl,h5⟩:=h;rw[Ay3 ih h5]
noncomputable def onT {α:Type}(f:Tm->α)(d:α)(r:List SV):α:=open Classical in if h:∃t,tv t=r then f (Classical.choose h) else d
def Ky{α:Type}(f:Tm->α)(d:α)(t:Tm):onT f d (tv t)=f t:=by
 have h:∃u,tv u=tv t:=⟨t,rfl⟩
 unfold onT;rw[dif_pos h,A4h _ _ (Classical.choose_spec h)]
def rows5(l:List Tm):∀r∈l.map tv,r.length=5:=fun r hr=>by obtain⟨t,_,rfl⟩:=q_kz.1 hr;exact Bz t
mutual
def Cz:Tm->Int->Bool
 |.mk k i j n l,want=>Fw k i j n want l.length && Zw k 0 l
def Zw(k:Int):Nat->List Tm->Bool
 |_,[]=>true
 |p,t::l=>Cz t (ofN k p) && Zw k (p+1) l
end
def A1w(k:Int):∀(l:List Tm) (p:Nat),Zw k p l=Gg (fun p t=>Cz t (ofN k p)) p l:=by
 intro l
 induction l with
 |nil=>intro p;rw[Zw];rfl
 |cons t l ih=>intro p;rw[Zw,Gg,ih]
def Kb(k i j n:Int)(l:List Tm)(want:Int):Cz (.mk k i j n l) want=(Fw k i j n want l.length && Gg (fun p t=>Cz t (ofN k p)) 0 l):=by rw[Cz,A1w]
def Acp(t:Tm):TOk t->∀want,Con 56 [.agg true (tv t),.int .i64 want] (.bool (Cz t want)):=by
 induction t using Tm.ind with
 |h k i j n l ih=>
  intro hok want;cases hok with
  |mk _ _ _ _ _ f1 f2 f3 f4 hb hl=>
  have h:=Aq2 k i j n want (l.map tv) (fun p r=>onT (fun t=>Cz t (ofN k p)) false r) (by simpa using hb) (rows5 l) (fun p r hr=>by
   obtain⟨t,ht,rfl⟩:=q_kz.1 hr;simp only[Ky];exact ih t ht (hl t ht) _)
  rw[Agq,q_g,l7 (g:=fun p t=>Cz t (ofN k p)) (fun p t _=>by rw[Ky]),<-Kb,<-Bp] at h;exact h
def p8(t:Tm)(ht:TOk t):Con 23 [.agg true (tv t)] (.bool (Cz t 2)):=by
 refine Bt mixed Tryz.func23 tr23 ?_;have hc:=Acp t ht 2;cases t with
 |mk k i j n l=>
 rw[Bp] at hc |-;simp only[go_sem,seval];refine Ae hc ?_;simp only[go_sem,seval]
def q9(t:Tm)(ht:TOk t):Con 64 [.agg true (tv t)] (.bool (Cz t 0)):=by
 refine Bt mixed Tryz.func64 tr64 ?_;have hc:=Acp t ht 0;cases t with
 |mk k i j n l=>
 rw[Bp] at hc |-;simp only[go_sem,seval];refine Ae hc ?_;simp only[go_sem,seval]
def Ara(k i j n:Int)(rows:GV)(h:k=1\/k=10\/k=11\/k=12):Con 93 [.agg true [.int .i64 k,.int .i64 i,.int .i64 j,.int .i64 n,.dsl 5 rows]] (.bool (lev i && ((j==0) && (n==0)))):=by
 refine Bt mixed Tryz.func93 tr93 ?_;rcases h with rfl|rfl|rfl|rfl<;>simp only[go_sem,seval]<;>refine Ae (Xe i) ?_<;>(cases hL:lev i<;>cases hJ:(j==0)<;>cases hN:(n==0)<;>simp only[go_sem,seval,hJ,hN])
def Arb(i j n:Int)(rows:GV):Con 93 [.agg true [.int .i64 2,.int .i64 i,.int .i64 j,.int .i64 n,.dsl 5 rows]] (.bool (decide (0<=i) && (decide (i<=2147483647) && ((j==0) && (n==0))))):=by
 refine Bt mixed Tryz.func93 tr93 ?_
 by_cases h1:0<=i<;>by_cases h2:i<=2147483647<;>cases hJ:(j==0)<;>cases hN:(n==0)<;>simp only[go_sem,seval,hJ,hN,h1,h2]
def Ard(k i j n:Int)(rows:GV)(h:k=3\/k=4\/k=5\/k=6\/k=7\/k=8\/k=9):Con 93 [.agg true [.int .i64 k,.int .i64 i,.int .i64 j,.int .i64 n,.dsl 5 rows]] (.bool (lev i && (lev j && (n==0)))):=by
 refine Bt mixed Tryz.func93 tr93 ?_;rcases h with rfl|rfl|rfl|rfl|rfl|rfl|rfl<;>simp only[go_sem,seval]<;>refine Ae (Xe i) ?_<;>(cases hL:lev i<;>simp only[go_sem,seval];refine Ae (Xe j) ?_;cases hJ:lev j<;>cases hN:(n==0)<;>simp only[go_sem,seval,hN])
def Arc(i j n:Int)(rows:GV):Con 93 [.agg true [.int .i64 23,.int .i64 i,.int .i64 j,.int .i64 n,.dsl 5 rows]] (.bool (lev i && lev j)):=by
 refine Bt mixed Tryz.func93 tr93 ?_;simp only[go_sem,seval];refine Ae (Xe i) ?_;cases hL:lev i
 ·simp only[go_sem,seval]
 ·simp only[go_sem,seval];refine Ae (Xe j) ?_;simp only[go_sem,seval]
def Aq9(k i j n:Int)(rows:GV)(h:k<1\/(12<k/\k≠23)):Con 93 [.agg true [.int .i64 k,.int .i64 i,.int .i64 j,.int .i64 n,.dsl 5 rows]] (.bool ((i==0) && ((j==0) && (n==0)))):=by
 refine Bt mixed Tryz.func93 tr93 ?_;simp only[go_sem,seval,Bh (show k≠1 by omega),Bh (show k≠2 by omega),Bh (show k≠3 by omega),Bh (show k≠4 by omega),Bh (show k≠5 by omega),Bh (show k≠6 by omega),Bh (show k≠7 by omega),Bh (show k≠8 by omega),Bh (show k≠9 by omega),Bh (show k≠10 by omega),Bh (show k≠11 by omega),Bh (show k≠12 by omega),Bh (show k≠23 by omega)];cases hI:(i==0)<;>cases hJ:(j==0)<;>cases hN:(n==0)<;>simp only[go_sem,seval,hJ,hN]
def Aq8(k i j n:Int)(rows:GV):Con 93 [.agg true [.int .i64 k,.int .i64 i,.int .i64 j,.int .i64 n,.dsl 5 rows]] (.bool (Id k i j n)):=by
 unfold Id
 by_cases h1:k=1\/k=10\/k=11\/k=12
 ·rw[if_pos h1];exact Ara k i j n rows h1
 ·rw[if_neg h1]
  by_cases h2:k=2
  ·subst h2;rw[if_pos rfl];exact Arb i j n rows
  ·rw[if_neg h2]
   by_cases h3:3<=k/\k<=9
   ·rw[if_pos h3];exact Ard k i j n rows (by omega)
   ·rw[if_neg h3]
    by_cases h4:k=23
    ·subst h4;rw[if_pos rfl];exact Arc i j n rows
    ·rw[if_neg h4];exact Aq9 k i j n rows (by omega)
def Rz(k i j n:Int)(len:Nat):Bool:=((len:Int)==Fc k n) && Id k i j n
def Ahs(k i j n:Int)(rows:GV):Con 59 [.agg true [.int .i64 k,.int .i64 i,.int .i64 j,.int .i64 n,.dsl 5 rows]] (.bool (Rz k i j n rows.length)):=by
 refine Bt mixed Tryz.func59 tr59 ?_;simp only[go_sem,seval];refine Ae (Aq3 k n) ?_;unfold Rz;cases hK:((rows.length:Int)==Fc k n)
 ·simp only[go_sem,seval,hK]
 ·simp only[go_sem,seval,hK];refine Ae (Aq8 k i j n rows) ?_;simp only[go_sem,seval]
open Go Go.RowKit Go.Proofs.YtgfehkhcmnfpaaaGreatDoor
def Abh(k i j n:Int)(len:Nat):Bool:=!((k != 1) && ((k != 2) && (decide (k<13) || decide (k > 23)))) && Rz k i j n len
def Abg(k i j n:Int)(len:Nat):Bool:=!(decide (k<1) || decide (k > 12)) && Rz k i j n len
def Are(k i j n:Int)(rows:GV)(W:List SV->Bool)(h2:rows.length*56<=140737488355328)(h5:∀r∈rows,r.length=5)
  (H:∀r∈rows,Con 27 [.agg true r] (.bool (W r))) :
  Con 27 [.agg true [.int .i64 k,.int .i64 i,.int .i64 j,.int .i64 n,.dsl 5 rows]] (.bool (Abh k i j n rows.length && rows.all W)):=by
 refine Bt mixed Tryz.func27 tr27 ?_;simp only[go_sem,seval];unfold Abh;have hend:∀b:Bool,b=((k != 1) && ((k != 2) && (decide (k<13) || decide (k > 23))))->True:=fun _ _=>trivial
 cases h1:(k != 1)<;>cases Vf:(k != 2)<;>by_cases h3:k<13<;>by_cases h4:23<k<;>simp only[go_sem,seval,Vf,h3,h4]
 all_goals
  refine Ae (Ahs k i j n rows) ?_;cases hN:Rz k i j n rows.length<;>simp only[go_sem,seval];refine Ul (fun x=>⟨(.J::.ref 0 0 0 0::.J::.int .i64 x::Fb (jk4 (.J::[]))),[⟨true,5,[[.int .i64 k,.int .i64 i,.int .i64 j,.int .i64 n,.dsl 5 rows]],0,0,true⟩]⟩) rows.length (fun x=>W (rows[x]?.getD [])=true) (fun x hx hp=>?_) ?_
  ·simp only[go_sem,seval];intro _;refine⟨fun h=>?_,fun h=>?_⟩
   ·have Aq:=q_ku h;have El:x<rows.length:=by omega
    have e0:(0:Int)<=(x:Int):=by omega
    have hm:=Fg (d:=[]) El;have Iv:=h5 _ hm;simp only[go_sem,seval,Aq,e0,Iv];refine Ae (H _ hm) ?_;cases hW:W (rows[x]?.getD [])<;>simp only[go_sem,seval]
    ·rw[Ant (d:=[]) (i:=x) El hW]
    ·refine⟨El,?_⟩;rw[w64 (n:=(x:Int)+1) (by unfold fit;omega)];exact Cr (by simp[Cb])
   ·have Hz:=q_kv h;have Oc:x=rows.length:=by omega
    simp only[go_sem,seval,h];rw[Anu (d:=[]) (f:=W) (fun j hj=>hp j (by omega))]
  ·exact Cr (by simp[Cb])
def Aq5(k i j n:Int)(rows:GV)(W:Nat->List SV->Bool)(h2:rows.length*56<=140737488355328)(h5:∀r∈rows,r.length=5)
  (H1:∀p:Nat,∀r∈rows,((k==12) && ((p:Int)==2))=true->Con 27 [.agg true r] (.bool (W p r)))
  (H2:∀p:Nat,∀r∈rows,((k==12) && ((p:Int)==2))=false->Con 58 [.agg true r] (.bool (W p r))) :
  Con 58 [.agg true [.int .i64 k,.int .i64 i,.int .i64 j,.int .i64 n,.dsl 5 rows]] (.bool (Abg k i j n rows.length && Gg W 0 rows)):=by
 refine Bt mixed Tryz.func58 tr58 ?_;simp only[go_sem,seval];unfold Abg
 by_cases h3:k<1<;>by_cases h4:12<k<;>simp only[go_sem,seval,h3,h4]
 all_goals
  refine Ae (Ahs k i j n rows) ?_;cases hN:Rz k i j n rows.length<;>simp only[go_sem,seval];refine Ul (fun x=>⟨(.J::.ref 0 0 0 0::.J::.int .i64 x::Fb (jk8 (.J::[]))),[⟨true,5,[[.int .i64 k,.int .i64 i,.int .i64 j,.int .i64 n,.dsl 5 rows]],0,0,true⟩]⟩) rows.length (fun x=>W x (rows[x]?.getD [])=true) (fun x hx hp=>?_) ?_
  ·simp only[go_sem,seval];intro _;refine⟨fun h=>?_,fun h=>?_⟩
   ·have Aq:=q_ku h;have El:x<rows.length:=by omega
    have e0:(0:Int)<=(x:Int):=by omega
    have hm:=Fg (d:=[]) El;have Iv:=h5 _ hm;have g1:=H1 x _ hm;have g2:=H2 x _ hm;cases Nm:(k==12)<;>cases Ha:((x:Int)==2)<;>simp only[go_sem,seval,Nm,Ha,Aq,e0,Iv]
    all_goals
     simp only[Nm,Ha,q_l,q_lb,q_la,q_lc,true_implies,reduceCtorEq,false_implies] at g1 g2
     first
      |refine Ae g1 ?_
      |refine Ae g2 ?_
     cases hW:W x (rows[x]?.getD [])<;>simp only[go_sem,seval]
     ·rw[Wz (d:=[]) (i:=x) El (by rw[q_jg];exact hW)]
     ·refine⟨El,?_⟩;rw[w64 (n:=(x:Int)+1) (by unfold fit;omega)];exact Cr (by simp[Cb])
   ·have Hz:=q_kv h;have Oc:x=rows.length:=by omega
    simp only[go_sem,seval,h];rw[l8 (d:=[]) (f:=W) (fun j hj=>by rw[q_jg];exact hp j (by omega))]
  ·exact Cr (by simp[Cb])
abbrev Oi(t:Tm):Bool:=Cz t 2
def Ax4(k n:Int)(h:k<=0\/23<k):Fc k n=-1:=by
 unfold Fc tab;rw[if_neg (by omega),if_neg (by simp only[q_jk,List.length_nil];omega)]
def Ae0(k n:Int)(len:Nat)(h:k<=0\/23<k):((len:Int)==Fc k n)=false:=by
 rw[Ax4 k n h];exact Bh (by omega)
def A2e(k i j n:Int)(len:Nat):Abh k i j n len=Fw k i j n 2 len:=by
 unfold Abh Fw Rz;rw[show (!((len:Int) != Fc k n))=((len:Int)==Fc k n) by simp[bne]]
 by_cases h:k<=0\/23<k
 ·rw[Ae0 k n len h];simp
 ·congr 1;have hs:Ge k=if k=1\/k=2 then 0 else if k<=12 then 1 else 2:=rfl
  by_cases h1:k=1
  ·subst h1;rfl
  ·by_cases h2:k=2
   ·subst h2;rfl
   ·rw[hs,if_neg (by omega)];have e1:(k != 1)=true:=by simp[h1]
    have e2:(k != 2)=true:=by simp[h2]
    rw[e1,e2];have e4:decide (k > 23)=false:=by simp;omega
    rw[e4]
    by_cases h3:k<=12
    ·rw[if_pos h3];have e3:decide (k<13)=true:=by simp;omega
     rw[e3];rfl
    ·rw[if_neg h3];have e3:decide (k<13)=false:=by simp;omega
     rw[e3];rfl
def Anr{α:Type}{f:α->Bool}:∀{l:List α} {p:Nat},Gg (fun _ x=>f x) p l=l.all f:=by
 intro l
 induction l with
 |nil=>intro p;rfl
 |cons x l ih=>intro p;simp only[Gg,List.all_cons,ih]
def A0l(k i j n:Int)(l:List Tm):Cz (.mk k i j n l) 2=(Fw k i j n 2 l.length && l.all Oi):=by
 rw[Kb];cases h:Fw k i j n 2 l.length
 ·rfl
 ·rw[q_la,q_la];unfold Fw at h;simp only[q_jl,q_kw,Bool.not_eq_true',bne_eq_false_iff_eq] at h;obtain⟨h1,h2,_⟩:=h;have hs:Ge k=if k=1\/k=2 then 0 else if k<=12 then 1 else 2:=rfl
  by_cases Nm:k=1\/k=2
  ·have:l=[]:=by
    rcases Nm with rfl|rfl
    ·exact q_ky.1 (by simpa [Fc,tab] using h2)
    ·exact q_ky.1 (by simpa [Fc,tab] using h2)
   subst this;rfl
  ·rw[if_neg Nm] at hs;have hk:Ge k=2:=by
    rcases h1 with h1|h1|h1
    ·omega
    ·rw[hs] at h1;split at h1<;>omega
    ·exact h1
   have h13:k≠12:=by
    intro e;subst e;simp[Ge] at hk
   rw[l7 (g:=fun _ t=>Oi t) (fun p t _=>by unfold ofN;rw[if_neg (by omega),hk]),Anr]
def Acr(t:Tm):TOk t->Con 27 [.agg true (tv t)] (.bool (Oi t)):=by
 induction t using Tm.ind with
 |h k i j n l ih=>
  intro hok;cases hok with
  |mk _ _ _ _ _ f1 f2 f3 f4 hb hl=>
  have h:=Are k i j n (l.map tv) (onT Oi false) (by simpa using hb) (rows5 l) (fun r hr=>by
   obtain⟨t,ht,rfl⟩:=q_kz.1 hr;rw[Ky];exact ih t ht (hl t ht))
  rw[q_g,A2e,List.all_map,<-Bp] at h;have e:l.all (onT Oi false ∘ tv)=l.all Oi:=by
   congr 1;funext t;simp[Ky]
  rw[e,<-A0l] at h;exact h
def Cn(k p:Int):Int:=
 if k=3\/k=5\/k=6\/k=7\/k=8\/k=9\/k=13\/k=14\/k=16\/k=17 then (if p=1 then 1 else 0)
 else if k=4 then (if p=1\/p=2 then 1 else 0)
 else if k=22 then (if p=2 then 2 else 0) else 0
def Pk(k p:Int):0<=Cn k p/\Cn k p<=2:=by
 unfold Cn
 repeat' split
 all_goals omega
def Ahc(k p:Int):Con 99 [.int .i64 k,.int .i64 p] (.int .i64 (Cn k p)):=by
 refine Bt mixed Tryz.func99 tr99 ?_
 by_cases h:k=3\/k=5\/k=6\/k=7\/k=8\/k=9\/k=13\/k=14\/k=16\/k=17
 ·have e:Cn k p=if p=1 then 1 else 0:=by unfold Cn;rw[if_pos h]
  rw[e];rcases h with rfl|rfl|rfl|rfl|rfl|rfl|rfl|rfl|rfl|rfl <;>
   (cases hp:(p==1)<;>simp only[beq_iff_eq,beq_eq_false_iff_ne,ne_eq] at hp<;>simp only[go_sem,seval,hp,Bh])
 ·by_cases h4:k=4
  ·subst h4;have e:Cn 4 p=if p=1\/p=2 then 1 else 0:=by unfold Cn;rw[if_neg (by decide),if_pos rfl]
   rw[e]
   by_cases h1:p=1
   ·subst h1;simp only[go_sem,seval]
   ·by_cases h2:p=2
    ·subst h2;simp only[go_sem,seval]
    ·rw[if_neg (by omega)];simp only[go_sem,seval,Bh h1,Bh h2]
  ·by_cases Ii:k=22
   ·subst Ii;have e:Cn 22 p=if p=2 then 2 else 0:=by unfold Cn;rw[if_neg (by decide),if_neg (by decide),if_pos rfl]
    rw[e]
    by_cases h2:p=2
    ·subst h2;simp only[go_sem,seval]
    ·rw[if_neg h2];simp only[go_sem,seval,Bh h2]
   ·have e:Cn k p=0:=by unfold Cn;rw[if_neg h,if_neg h4,if_neg Ii]
    rw[e];simp only[go_sem,seval,Bh (show k≠3 by omega),Bh h4,Bh (show k≠5 by omega),Bh (show k≠6 by omega),Bh (show k≠7 by omega),Bh (show k≠8 by omega),Bh (show k≠9 by omega),Bh (show k≠13 by omega),Bh (show k≠14 by omega),Bh (show k≠16 by omega),Bh (show k≠17 by omega),Bh Ii]
mutual
def Du:Tm->Nat
 |.mk _ _ _ _ l=>Lj l+1
def Lj:List Tm->Nat
 |[]=>0
 |t::l=>max (Du t) (Lj l)
end
def Yj(k i j n:Int)(l:List Tm):Du (.mk k i j n l)=Lj l+1:=by rw[Du]
def Aab{t:Tm}:∀{l:List Tm},t∈l->Du t<=Lj l:=by
 intro l
 induction l with
 |nil=>intro h;cases h
 |cons u l ih=>
  intro h;rw[Lj];rcases q_kb.1 h with rfl|h
  ·omega
  ·have:=ih h;omega
def Axa{b:Nat}:∀{l:List Tm},(∀t∈l,Du t<=b)->Lj l<=b:=by
 intro l
 induction l with
 |nil=>intro _;rw[Lj];omega
 |cons u l ih=>
  intro h;rw[Lj];have h1:=h u (by simp);have h2:=ih (fun t ht=>h t (by simp[ht]));omega
def Ans{α:Type}{f:Nat->α->Bool}{x:α}:∀{l:List α} {p:Nat},Gg f p l=true->x∈l->∃q,f q x=true:=by
 intro l
 induction l with
 |nil=>intro p _ h;cases h
 |cons y l ih=>
  intro p h hx;rw[Gg,q_jl] at h;rcases q_kb.1 hx with rfl|hx
  ·exact⟨p,h.1⟩
  ·exact ih h.2 hx
def Uf{k i j n w:Int}{l:List Tm}{t:Tm}(h:Cz (.mk k i j n l) w=true)(ht:t∈l):∃w',Cz t w'=true:=by
 rw[Kb,q_jl] at h;obtain⟨q,hq⟩:=Ans h.2 ht;exact⟨_,hq⟩
def Afr{k i j n w:Int}{l:List Tm}(h:Cz (.mk k i j n l) w=true)(hk:k=2):0<=i/\i<=2147483647:=by
 rw[Kb,q_jl] at h;have h1:=h.1;unfold Fw at h1;rw[q_jl,q_jl] at h1;have h2:=h1.2.2;unfold Id at h2;rw[if_neg (by omega),if_pos hk] at h2;simp only[q_jl,q_jt] at h2;exact⟨h2.1,h2.2.1⟩
def Abv{k i j n:Int}{l:List Tm}(h:TOk (.mk k i j n l)):fit k/\fit i/\fit j/\fit n/\l.length*56<=140737488355328/\∀t∈l,TOk t:=by
 cases h with
 |mk _ _ _ _ _ f1 f2 f3 f4 hb hl=>exact⟨f1,f2,f3,f4,hb,hl⟩
def pm(F:Nat->Int):Nat->Int
 |0=>0
 |x+1=>max (pm F x) (F x)
def A0p(F:Nat->Int):∀x,0<=pm F x:=by
 intro x
 induction x with
 |zero=>exact Int.le_refl _
 |succ x ih=>rw[pm];omega
def A0m(F:Nat->Int)(d:Int)(hd:0<=d):∀x,pm (fun y=>max (F y-d) 0) x=max (pm F x-d) 0:=by
 intro x
 induction x with
 |zero=>simp only[pm];omega
 |succ x ih=>rw[pm,pm,ih];omega
def Afq{F G:Nat->Int}:∀{x:Nat},(∀y,y<x->F y=G y)->pm F x=pm G x:=by
 intro x
 induction x with
 |zero=>intro _;rfl
 |succ x ih=>intro h;rw[pm,pm,ih (fun y hy=>h y (by omega)),h x (by omega)]
def A0o{F:Nat->Int}{b:Int}(hb:0<=b):∀{x:Nat},(∀y,y<x->F y<=b)->pm F x<=b:=by
 intro x
 induction x with
 |zero=>intro _;exact hb
 |succ x ih=>intro h;rw[pm];have:=ih (fun y hy=>h y (by omega));have:=h x (by omega);omega
def A0q(F:Nat->Int):∀x,pm F (x+1)=max (F 0) (pm (fun y=>F (y+1)) x):=by
 intro x
 induction x with
 |zero=>simp only[pm];omega
 |succ x ih=>rw[pm,ih,pm];omega
mutual
def Da:Tm->Int
 |.mk k i _ _ l=>if k=2 then i+1 else Oo k 0 l
def Oo(k:Int):Nat->List Tm->Int
 |_,[]=>0
 |p,t::l=>max (Da t-Cn k p) (Oo k (p+1) l)
end
def Avt(k:Int):∀(l:List Tm) (p:Nat),Oo k p l=pm (fun y=>Da (l[y]?.getD default)-Cn k ((p+y:Nat):Int)) l.length:=by
 intro l
 induction l with
 |nil=>intro p;rw[Oo];rfl
 |cons t l ih=>
  intro p;rw[Oo,ih,q_jk,A0q];simp only[q_jv,q_kf,q_jz,q_jp];congr 1;refine Afq (fun y _=>?_);rw[show p+1+y=p+(y+1) by omega]
def v7{k i j n:Int}{l:List Tm}(h:k≠2):Da (.mk k i j n l)=pm (fun y=>Da (l[y]?.getD default)-Cn k ((y:Nat):Int)) l.length:=by
 rw[Da,if_neg h,Avt];exact Afq (fun y _=>by rw[q_jg])
def Aii(t:Tm):∀w,Cz t w=true->0<=Da t/\Da t<=2147483648:=by
 induction t using Tm.ind with
 |h k i j n l ih=>
  intro w hr
  by_cases h:k=2
  ·have:=Afr hr h;rw[Da,if_pos h];omega
  ·rw[v7 h];refine⟨A0p _ _,A0o (by omega) (fun y hy=>?_)⟩;obtain⟨w',hw⟩:=Uf hr (Fg (d:=default) hy);have:=ih _ (Fg (d:=default) hy) w' hw;have:=Pk k y;omega
def Alx{V:Nat->Int}{x:Nat}:(if pm V x<V x then V x else pm V x)=pm V (x+1):=by
 rw[pm];split<;>omega
def Ap5(k i j n d:Int)(rows:GV)(V:Nat->Int)(h2:rows.length*56<=140737488355328)(h5:∀r∈rows,r.length=5)(hk:k≠2)(hd:0<=d)(Rl:d<=1000000000000)
  (H:∀x,x<rows.length->Con 88 [.agg true (rows[x]?.getD []),.int .i64 (d+Cn k (x:Nat))] (.int .i64 (V x))) :
  Con 88 [.agg true [.int .i64 k,.int .i64 i,.int .i64 j,.int .i64 n,.dsl 5 rows],.int .i64 d] (.int .i64 (pm V rows.length)):=by
 refine Bt mixed Tryz.func88 tr88 ?_;have q:(k==2)=false:=Bh hk;simp only[go_sem,seval,q];intros;refine Kf (fun x=>⟨(.J::.int .i64 d::.ref 0 0 0 0::.J::.int .i64 0::.int .i64 (pm V x)::jk8 (jk4 (.dsl 5 rows::.int .i64 rows.length::.int .i64 x::Fa ([])))),[⟨true,5,[[.int .i64 k,.int .i64 i,.int .i64 j,.int .i64 n,.dsl 5 rows]],0,0,true⟩]⟩) rows.length (fun x hx=>?_) ?_
 ·simp only[go_sem,seval];refine⟨fun h=>?_,fun h=>?_⟩
  ·have Aq:=q_ku h;have El:x<rows.length:=by omega
   have e0:(0:Int)<=(x:Int):=by omega
   have hm:=Fg (d:=[]) El;have Iv:=h5 _ hm;have hb:=Pk k x;have ew:IntKind.i64.wrap (d+Cn k x)=d+Cn k x:=w64 (by unfold fit;omega)
   repeat' first
   |simp only[go_sem,seval,Aq,e0,Iv,ew,Alx]
   |refine Ae (Ahc k x) ?_
   |refine Ae (H x El) ?_
   refine⟨El,?_⟩;rw[w64 (n:=(x:Int)+1) (by unfold fit;omega)];exact Js 1 (by simp[Cb]) (by simp) (by simp[below]) (by simp)
  ·have Hz:=q_kv h;have Oc:x=rows.length:=by omega
   subst Oc;simp only[go_sem,seval,h]
 ·exact Cr (by simp[Cb,pm])
def Ap4(t:Tm):TOk t->∀(w d:Int),Cz t w=true->0<=d->d+2*Du t<=1000000000000->Con 88 [.agg true (tv t),.int .i64 d] (.int .i64 (max (Da t-d) 0)):=by
 induction t using Tm.ind with
 |h k i j n l ih=>
  intro hok w d hr hd Dy;obtain⟨f1,f2,f3,f4,hb,hl⟩:=Abv hok;rw[Yj] at Dy
  by_cases hk:k=2
  ·obtain⟨i1,i2⟩:=Afr hr hk;have q:(k==2)=true:=by simp[hk]
   have e1:IntKind.i64.wrap (i+1)=i+1:=w64 (by unfold fit;omega);have e2:IntKind.i64.wrap (i+1-d)=i+1-d:=w64 (by unfold fit;omega);have e3:max (i+1-d) 0=if i+1-d<0 then 0 else i+1-d:=by split<;>omega
   rw[Da,if_pos hk,e3];refine Bt mixed Tryz.func88 tr88 ?_;rw[Bp];simp only[go_sem,seval,q,e1,e2]
  ·have Bl:(l.map tv).length=l.length:=by simp
   have h:=Ap5 k i j n d (l.map tv) (fun x=>max (Da (l[x]?.getD default)-(d+Cn k (x:Nat))) 0) (by omega) (rows5 l) hk hd (by omega) (fun x hx=>by
    rw[Bl] at hx;rw[q_ji,q_f hx];have hm:=q_kd hx;obtain⟨w',hw⟩:=Uf hr hm;have hh:=Aab hm;have hbl:=Pk k x;exact ih _ hm (hl _ hm) w' _ hw (by omega) (by omega))
   rw[Bl,<-Bp] at h;have e:pm (fun x=>max (Da (l[x]?.getD default)-(d+Cn k (x:Nat))) 0) l.length=max (Da (.mk k i j n l)-d) 0:=by
    rw[v7 hk,<-A0m _ d hd];refine Afq (fun y _=>?_);show max (Da (l[y]?.getD default)-(d+Cn k (y:Nat))) 0=max (Da (l[y]?.getD default)-Cn k (y:Nat)-d) 0;congr 1;omega
   rw[e] at h;exact h
def Gy(t:Tm):Int:=if Cz t 0 then Da t else 0
def Qx(t:Tm)(ht:TOk t)(hh:Du t<=100000):Con 55 [.agg true (tv t)] (.int .i64 (Gy t)):=by
 have h1:=q9 t ht;have hz:=Bz t;unfold Gy;refine Bt mixed Tryz.func55 tr55 ?_;cases hr:Cz t 0
 ·rw[hr] at h1;simp only[go_sem,seval,hz];refine Ae h1 ?_;simp only[go_sem,seval]
 ·rw[hr] at h1;have h2:=Ap4 t ht 0 0 hr (by omega) (by omega);have hp:=Aii t 0 hr;rw[show max (Da t-0) 0=Da t by omega] at h2;simp only[go_sem,seval,hz];refine Ae h1 ?_;simp only[go_sem,seval,hz];refine Ae h2 ?_;simp only[go_sem,seval]
abbrev Fd(t:Tm):Bool:=Cz t 1
def Nl(t:Tm)(ht:TOk t):Con 20 [.agg true (tv t)] (.bool (Fd t)):=by
 refine Bt mixed Tryz.func20 tr20 ?_;have hc:=Acp t ht 1;cases t with
 |mk k i j n l=>
 rw[Bp] at hc |-;simp only[go_sem,seval];refine Ae hc ?_;simp only[go_sem,seval]
end Go.Proofs.YtgfehkhcmnfpaaaGreatDoor.Abs
