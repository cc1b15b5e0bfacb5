import Derived.Test.YtgfehkhcmnfpaaaGreatDoorIOt
import Derived.Test.YtgfehkhcmnfpaaaGreatDoorIWb
set_option linter.all false
set_option maxRecDepth 20000
set_option maxHeartbeats 4000000
namespace Go.Proofs.YtgfehkhcmnfpaaaGreatDoor.Abs
open Go Go.RowKit Go.Proofs.YtgfehkhcmnfpaaaGreatDoor
section
variable{c:RC}{T:TR}{f:Nat}{ns:List By}{k:Nat}{s:RS}{G:GV}
def Axt(hc:Dc c)(hT:TCG c T f)(Bk:ns.length+3*f+2<100000000000)(hk:12<k/\k≠23)(hb:s.bad=false)(hN:NGr s.D)(hG:NGr G)(hs:c.L.length<s.k+f):LCG c T ns k [120,116,98,116,116] s G:=by
 obtain⟨k0,b0,a0,D0⟩:=s;simp only at hs hN hb;subst hb;have Ar:ofR k=2:=by unfold ofR;rw[if_neg (by omega)]
 have Gg:¬(k:Int)<=12:=by omega
 have Bx:k≠23:=hk.2;have Al:((k:Int)==23)=false:=by rw[beq_eq_false_iff_ne];omega
 have c0:=Cs (nm:=nmG ns) (s:=⟨k0,false,a0,D0⟩) (G:=G++D0) hc 3;have d0:=(Bn (c:=c) (s:=⟨k0,false,a0,D0⟩) 3).symm;have m0:=Ce (c:=c) (s:=⟨k0,false,a0,D0⟩) 3;generalize e0:Ad c ⟨k0,false,a0,D0⟩ 3=q at c0 d0 m0;obtain⟨u0,k1,b1,a1,E1⟩:=q;simp only at c0 d0 m0;subst d0;have t1:=hT ns 2 ⟨k1,false,a1,D0⟩ G (by first|omega|(simp only;omega)) (by first|omega|(simp at Bk |-;omega)) (by decide) hN hG;generalize e1:T ns 2 ⟨k1,false,a1,D0⟩=q at t1;obtain⟨u1,k2,b2,a2,D2⟩:=q;obtain⟨c1,m1,N2⟩:=t1;simp only at c1 m1 N2;have z1:=Br u1;have t2:=hT (u0::ns) 2 ⟨k2,false,a2,D2⟩ G (by first|omega|(simp only;omega)) (by first|omega|(simp at Bk |-;omega)) (by decide) N2 hG;generalize e2:T (u0::ns) 2 ⟨k2,false,a2,D2⟩=q at t2;obtain⟨u2,k3,b3,a3,D3⟩:=q;obtain⟨c2,m2,N3⟩:=t2;simp only at c2 m2 N3;have z2:=Br u2;have t3:=hT ns 2 ⟨k3,false,a3,D3⟩ G (by first|omega|(simp only;omega)) (by first|omega|(simp at Bk |-;omega)) (by decide) N3 hG;generalize e3:T ns 2 ⟨k3,false,a3,D3⟩=q at t3;obtain⟨u3,k4,b4,a4,D4⟩:=q;obtain⟨c3,m3,N4⟩:=t3;simp only at c3 m3 N4;have z3:=Br u3;have t4:=hT ns 2 ⟨k4,false,a4,D4⟩ G (by first|omega|(simp only;omega)) (by first|omega|(simp at Bk |-;omega)) (by decide) N4 hG;generalize e4:T ns 2 ⟨k4,false,a4,D4⟩=q at t4;obtain⟨u4,k5,b5,a5,D5⟩:=q;obtain⟨c4,m4,N5⟩:=t4;simp only at c4 m4 N5;have z4:=Br u4;refine⟨?_,?_,?_⟩;rotate_left
 ·cases b1;rotate_left
  ·have eR:Ai c T ns k [120,116,98,116,116] ⟨k0,false,a0,D0⟩=(.mk k (0:Nat) (0:Nat) 0 [],(Ad c ⟨k1,true,a1,D0⟩ 2).2):=by simp only[Ai,As,Au,Aw,Cc,Az,Cd,Ar,q_kl,q_km,e0];rfl
   rw[eR];refine q_kn ?_ (Ce 2);first|omega|(simp only;omega)
  cases b2;rotate_left
  ·have eR:Ai c T ns k [120,116,98,116,116] ⟨k0,false,a0,D0⟩=(.mk k (0:Nat) (0:Nat) 0 [u1],(Ad c ⟨k2,true,a2,D2⟩ 2).2):=by simp only[Ai,As,Au,Aw,Cc,Az,Cd,Ar,q_kl,q_km,e0,e1];rfl
   rw[eR];refine q_kn ?_ (Ce 2);first|omega|(simp only;omega)
  cases b3;rotate_left
  ·have eR:Ai c T ns k [120,116,98,116,116] ⟨k0,false,a0,D0⟩=(.mk k (0:Nat) (0:Nat) 0 [u1,u2],(Ad c ⟨k3,true,a3,D3⟩ 2).2):=by simp only[Ai,As,Au,Aw,Cc,Az,Cd,Ar,q_kl,q_km,e0,e1,e2];rfl
   rw[eR];refine q_kn ?_ (Ce 2);first|omega|(simp only;omega)
  cases b4;rotate_left
  ·have eR:Ai c T ns k [120,116,98,116,116] ⟨k0,false,a0,D0⟩=(.mk k (0:Nat) (0:Nat) 0 [u1,u2,u3],(Ad c ⟨k4,true,a4,D4⟩ 2).2):=by simp only[Ai,As,Au,Aw,Cc,Az,Cd,Ar,q_kl,q_km,e0,e1,e2,e3];rfl
   rw[eR];refine q_kn ?_ (Ce 2);first|omega|(simp only;omega)
  have eR:Ai c T ns k [120,116,98,116,116] ⟨k0,false,a0,D0⟩=(.mk k (0:Nat) (0:Nat) 0 [u1,u2,u3,u4],(Ad c ⟨k5,b5,a5,D5⟩ 2).2):=by simp only[Ai,As,Au,Aw,Cc,Az,Cd,Ar,q_kl,q_km,e0,e1,e2,e3,e4];rfl
  rw[eR];refine q_kn ?_ (Ce 2);first|omega|(simp only;omega)
 ·cases b1;rotate_left
  ·have eR:Ai c T ns k [120,116,98,116,116] ⟨k0,false,a0,D0⟩=(.mk k (0:Nat) (0:Nat) 0 [],(Ad c ⟨k1,true,a1,D0⟩ 2).2):=by simp only[Ai,As,Au,Aw,Cc,Az,Cd,Ar,q_kl,q_km,e0];rfl
   rw[eR];rw[Bn];exact hN
  cases b2;rotate_left
  ·have eR:Ai c T ns k [120,116,98,116,116] ⟨k0,false,a0,D0⟩=(.mk k (0:Nat) (0:Nat) 0 [u1],(Ad c ⟨k2,true,a2,D2⟩ 2).2):=by simp only[Ai,As,Au,Aw,Cc,Az,Cd,Ar,q_kl,q_km,e0,e1];rfl
   rw[eR];rw[Bn];exact N2
  cases b3;rotate_left
  ·have eR:Ai c T ns k [120,116,98,116,116] ⟨k0,false,a0,D0⟩=(.mk k (0:Nat) (0:Nat) 0 [u1,u2],(Ad c ⟨k3,true,a3,D3⟩ 2).2):=by simp only[Ai,As,Au,Aw,Cc,Az,Cd,Ar,q_kl,q_km,e0,e1,e2];rfl
   rw[eR];rw[Bn];exact N3
  cases b4;rotate_left
  ·have eR:Ai c T ns k [120,116,98,116,116] ⟨k0,false,a0,D0⟩=(.mk k (0:Nat) (0:Nat) 0 [u1,u2,u3],(Ad c ⟨k4,true,a4,D4⟩ 2).2):=by simp only[Ai,As,Au,Aw,Cc,Az,Cd,Ar,q_kl,q_km,e0,e1,e2,e3];rfl
   rw[eR];rw[Bn];exact N4
  have eR:Ai c T ns k [120,116,98,116,116] ⟨k0,false,a0,D0⟩=(.mk k (0:Nat) (0:Nat) 0 [u1,u2,u3,u4],(Ad c ⟨k5,b5,a5,D5⟩ 2).2):=by simp only[Ai,As,Au,Aw,Cc,Az,Cd,Ar,q_kl,q_km,e0,e1,e2,e3,e4];rfl
  rw[eR];rw[Bn];exact N5
 refine Ib (r:=.agg true (tvn (Ai c T ns k [120,116,98,116,116] ⟨k0,false,a0,D0⟩).1)) ?_ (Jd _);have Mk:5<=140737488355328:=by decide
 have Bd:(ns.reverse.map wdG).length=ns.length:=by simp
 have Bb:ns.length*16<=140737488355328:=by omega
 have Bc:ns.length<=140737488355328:=by omega
 have Be:(ns.length+1)*16<=140737488355328:=by omega
 have Bf:ns.length<=140737488355327:=by omega
 rw[show nmG (u0::ns)=.dsl 1 (ns.reverse.map wdG++[[SV.str (bs u0)]]) by simp[nmG,wdG]] at c2;rw[show nmG ns=.dsl 1 (ns.reverse.map wdG) from rfl] at *
 generalize ns.reverse.map wdG=R at *
 have Av:List.take (ns.length+1) (R++[[SV.str (bs u0)]])=R++[[SV.str (bs u0)]]:=q_js (by simp;omega);refine Bq mixed Tryz.func190 tr190 ?_;unfold rdS at c0 c1 c2 c3 c4 |-;simp only[go_sem,seval,Gg];refine Dv 6 (Ao ?_);simp only[go_sem,seval,v98,v116,v120,wq7,wq8,Al,z1,z2,z3,z4,Bd,Bb,Bc,Be,Bf,Av];refine Ac c0 ?_;simp only[go_sem,seval,v98,v116,v120,wq7,wq8,Al,z1,z2,z3,z4,Bd,Bb,Bc,Be,Bf,Av];cases b1;rotate_left
 ·refine Ao ?_;have ce:=Cs (nm:=.dsl 1 R) (s:=⟨k1,true,a1,D0⟩) (G:=G++D0) hc 2;have eR:Ai c T ns k [120,116,98,116,116] ⟨k0,false,a0,D0⟩=(.mk k (0:Nat) (0:Nat) 0 [],(Ad c ⟨k1,true,a1,D0⟩ 2).2):=by simp only[Ai,As,Au,Aw,Cc,Az,Cd,Ar,q_kl,q_km,e0];rfl
  rw[eR,Bn,Ip];unfold rdS at ce;simp only[go_sem,seval,v98,v116,v120,wq7,wq8,Al,z1,z2,z3,z4,Bd,Bb,Bc,Be,Bf,Av];refine Ac ce ?_;simp only[go_sem,seval,v98,v116,v120,wq7,wq8,Al,z1,z2,z3,z4,Bd,Bb,Bc,Be,Bf,Av,q_h,q_i]
 refine Ao ?_;simp only[go_sem,seval,v98,v116,v120,wq7,wq8,Al,z1,z2,z3,z4,Bd,Bb,Bc,Be,Bf,Av];refine Ac c1 ?_;simp only[go_sem,seval,v98,v116,v120,wq7,wq8,Al,z1,z2,z3,z4,Bd,Bb,Bc,Be,Bf,Av];cases b2;rotate_left
 ·refine Ao ?_;have ce:=Cs (nm:=.dsl 1 R) (s:=⟨k2,true,a2,D2⟩) (G:=G++D2) hc 2;have eR:Ai c T ns k [120,116,98,116,116] ⟨k0,false,a0,D0⟩=(.mk k (0:Nat) (0:Nat) 0 [u1],(Ad c ⟨k2,true,a2,D2⟩ 2).2):=by simp only[Ai,As,Au,Aw,Cc,Az,Cd,Ar,q_kl,q_km,e0,e1];rfl
  rw[eR,Bn,Eo];unfold rdS at ce;simp only[go_sem,seval,v98,v116,v120,wq7,wq8,Al,z1,z2,z3,z4,Bd,Bb,Bc,Be,Bf,Av];refine Ac ce ?_;simp only[go_sem,seval,v98,v116,v120,wq7,wq8,Al,z1,z2,z3,z4,Bd,Bb,Bc,Be,Bf,Av,q_h,q_i]
 refine Ao ?_;simp only[go_sem,seval,v98,v116,v120,wq7,wq8,Al,z1,z2,z3,z4,Bd,Bb,Bc,Be,Bf,Av];refine Ac c2 ?_;simp only[go_sem,seval,v98,v116,v120,wq7,wq8,Al,z1,z2,z3,z4,Bd,Bb,Bc,Be,Bf,Av];cases b3;rotate_left
 ·refine Ao ?_;have ce:=Cs (nm:=.dsl 1 R) (s:=⟨k3,true,a3,D3⟩) (G:=G++D3) hc 2;have eR:Ai c T ns k [120,116,98,116,116] ⟨k0,false,a0,D0⟩=(.mk k (0:Nat) (0:Nat) 0 [u1,u2],(Ad c ⟨k3,true,a3,D3⟩ 2).2):=by simp only[Ai,As,Au,Aw,Cc,Az,Cd,Ar,q_kl,q_km,e0,e1,e2];rfl
  rw[eR,Bn,Eo];unfold rdS at ce;simp only[go_sem,seval,v98,v116,v120,wq7,wq8,Al,z1,z2,z3,z4,Bd,Bb,Bc,Be,Bf,Av];refine Ac ce ?_;simp only[go_sem,seval,v98,v116,v120,wq7,wq8,Al,z1,z2,z3,z4,Bd,Bb,Bc,Be,Bf,Av,q_h,q_i]
 refine Ao ?_;simp only[go_sem,seval,v98,v116,v120,wq7,wq8,Al,z1,z2,z3,z4,Bd,Bb,Bc,Be,Bf,Av];refine Ac c3 ?_;simp only[go_sem,seval,v98,v116,v120,wq7,wq8,Al,z1,z2,z3,z4,Bd,Bb,Bc,Be,Bf,Av];cases b4;rotate_left
 ·refine Ao ?_;have ce:=Cs (nm:=.dsl 1 R) (s:=⟨k4,true,a4,D4⟩) (G:=G++D4) hc 2;have eR:Ai c T ns k [120,116,98,116,116] ⟨k0,false,a0,D0⟩=(.mk k (0:Nat) (0:Nat) 0 [u1,u2,u3],(Ad c ⟨k4,true,a4,D4⟩ 2).2):=by simp only[Ai,As,Au,Aw,Cc,Az,Cd,Ar,q_kl,q_km,e0,e1,e2,e3];rfl
  rw[eR,Bn,Eo];unfold rdS at ce;simp only[go_sem,seval,v98,v116,v120,wq7,wq8,Al,z1,z2,z3,z4,Bd,Bb,Bc,Be,Bf,Av];refine Ac ce ?_;simp only[go_sem,seval,v98,v116,v120,wq7,wq8,Al,z1,z2,z3,z4,Bd,Bb,Bc,Be,Bf,Av,q_h,q_i]
 refine Ao ?_;simp only[go_sem,seval,v98,v116,v120,wq7,wq8,Al,z1,z2,z3,z4,Bd,Bb,Bc,Be,Bf,Av];refine Ac c4 ?_;simp only[go_sem,seval,v98,v116,v120,wq7,wq8,Al,z1,z2,z3,z4,Bd,Bb,Bc,Be,Bf,Av];refine Ao ?_;have ce:=Cs (nm:=.dsl 1 R) (s:=⟨k5,b5,a5,D5⟩) (G:=G++D5) hc 2;have eR:Ai c T ns k [120,116,98,116,116] ⟨k0,false,a0,D0⟩=(.mk k (0:Nat) (0:Nat) 0 [u1,u2,u3,u4],(Ad c ⟨k5,b5,a5,D5⟩ 2).2):=by simp only[Ai,As,Au,Aw,Cc,Az,Cd,Ar,q_kl,q_km,e0,e1,e2,e3,e4];rfl
 rw[eR,Bn,Eo];unfold rdS at ce;simp only[go_sem,seval,v98,v116,v120,wq7,wq8,Al,z1,z2,z3,z4,Bd,Bb,Bc,Be,Bf,Av];refine Ac ce ?_;simp only[go_sem,seval,v98,v116,v120,wq7,wq8,Al,z1,z2,z3,z4,Bd,Bb,Bc,Be,Bf,Av,q_h,q_i]
def Akl(hc:Dc c)(hT:TCG c T f)(Bk:ns.length+3*f+2<100000000000)(hk:k<=12)(hb:s.bad=false)(hN:NGr s.D)(hG:NGr G)(hs:c.L.length<s.k+f):LCG c T ns k [76,77,120,116,98] s G:=by
 obtain⟨k0,b0,a0,D0⟩:=s;simp only at hs hN hb;subst hb;have Ar:ofR k=1:=by unfold ofR;rw[if_pos hk]
 have Gg:(k:Int)<=12:=by omega
 have Bx:k≠23:=by omega
 have Al:((k:Int)==23)=false:=by rw[beq_eq_false_iff_ne];omega
 have c0:=Lu (nm:=nmG ns) (G:=G++D0) hc (c.L.length+1) ⟨k0,false,a0,D0⟩ (q_ja _) (by simp only;omega) (by omega);have d0:=(Lw (c:=c) (c.L.length+1) ⟨k0,false,a0,D0⟩).symm;have m0:=Ei (c:=c) (c.L.length+1) ⟨k0,false,a0,D0⟩;generalize e0:Af c (c.L.length+1) ⟨k0,false,a0,D0⟩=q at c0 d0 m0;obtain⟨u0,k1,b1,a1,E1⟩:=q;simp only at c0 d0 m0;subst d0;have c1:=Lu (nm:=nmG ns) (G:=G++D0) hc (c.L.length+1) ⟨k1,false,a1,D0⟩ (q_ja _) (by simp only;omega) (by omega);have d1:=(Lw (c:=c) (c.L.length+1) ⟨k1,false,a1,D0⟩).symm;have m1:=Ei (c:=c) (c.L.length+1) ⟨k1,false,a1,D0⟩;generalize e1:Af c (c.L.length+1) ⟨k1,false,a1,D0⟩=q at c1 d1 m1;obtain⟨u1,k2,b2,a2,E2⟩:=q;simp only at c1 d1 m1;subst d1;have c2:=Cs (nm:=nmG ns) (s:=⟨k2,false,a2,D0⟩) (G:=G++D0) hc 3;have d2:=(Bn (c:=c) (s:=⟨k2,false,a2,D0⟩) 3).symm;have m2:=Ce (c:=c) (s:=⟨k2,false,a2,D0⟩) 3;generalize e2:Ad c ⟨k2,false,a2,D0⟩ 3=q at c2 d2 m2;obtain⟨u2,k3,b3,a3,E3⟩:=q;simp only at c2 d2 m2;subst d2;have t3:=hT ns 1 ⟨k3,false,a3,D0⟩ G (by first|omega|(simp only;omega)) (by first|omega|(simp at Bk |-;omega)) (by decide) hN hG;generalize e3:T ns 1 ⟨k3,false,a3,D0⟩=q at t3;obtain⟨u3,k4,b4,a4,D4⟩:=q;obtain⟨c3,m3,N4⟩:=t3;simp only at c3 m3 N4;have z3:=Br u3;have t4:=hT (u2::ns) 1 ⟨k4,false,a4,D4⟩ G (by first|omega|(simp only;omega)) (by first|omega|(simp at Bk |-;omega)) (by decide) N4 hG;generalize e4:T (u2::ns) 1 ⟨k4,false,a4,D4⟩=q at t4;obtain⟨u4,k5,b5,a5,D5⟩:=q;obtain⟨c4,m4,N5⟩:=t4;simp only at c4 m4 N5;have z4:=Br u4;refine⟨?_,?_,?_⟩;rotate_left
 ·cases b1;rotate_left
  ·have eR:Ai c T ns k [76,77,120,116,98] ⟨k0,false,a0,D0⟩=(.mk k (u0:Nat) (0:Nat) 0 [],(Ad c ⟨k1,true,a1,D0⟩ 2).2):=by simp only[Ai,As,Au,Aw,Bt,Cw Bx,Cc,Az,Cd,Ar,q_kl,q_km,e0];rfl
   rw[eR];refine q_kn ?_ (Ce 2);first|omega|(simp only;omega)
  cases b2;rotate_left
  ·have eR:Ai c T ns k [76,77,120,116,98] ⟨k0,false,a0,D0⟩=(.mk k (u0:Nat) (u1:Nat) 0 [],(Ad c ⟨k2,true,a2,D0⟩ 2).2):=by simp only[Ai,As,Au,Aw,Bt,Cw Bx,Cc,Az,Cd,Ar,q_kl,q_km,e0,e1];rfl
   rw[eR];refine q_kn ?_ (Ce 2);first|omega|(simp only;omega)
  cases b3;rotate_left
  ·have eR:Ai c T ns k [76,77,120,116,98] ⟨k0,false,a0,D0⟩=(.mk k (u0:Nat) (u1:Nat) 0 [],(Ad c ⟨k3,true,a3,D0⟩ 2).2):=by simp only[Ai,As,Au,Aw,Bt,Cw Bx,Cc,Az,Cd,Ar,q_kl,q_km,e0,e1,e2];rfl
   rw[eR];refine q_kn ?_ (Ce 2);first|omega|(simp only;omega)
  cases b4;rotate_left
  ·have eR:Ai c T ns k [76,77,120,116,98] ⟨k0,false,a0,D0⟩=(.mk k (u0:Nat) (u1:Nat) 0 [u3],(Ad c ⟨k4,true,a4,D4⟩ 2).2):=by simp only[Ai,As,Au,Aw,Bt,Cw Bx,Cc,Az,Cd,Ar,q_kl,q_km,e0,e1,e2,e3];rfl
   rw[eR];refine q_kn ?_ (Ce 2);first|omega|(simp only;omega)
  have eR:Ai c T ns k [76,77,120,116,98] ⟨k0,false,a0,D0⟩=(.mk k (u0:Nat) (u1:Nat) 0 [u3,u4],(Ad c ⟨k5,b5,a5,D5⟩ 2).2):=by simp only[Ai,As,Au,Aw,Bt,Cw Bx,Cc,Az,Cd,Ar,q_kl,q_km,e0,e1,e2,e3,e4];rfl
  rw[eR];refine q_kn ?_ (Ce 2);first|omega|(simp only;omega)
 ·cases b1;rotate_left
  ·have eR:Ai c T ns k [76,77,120,116,98] ⟨k0,false,a0,D0⟩=(.mk k (u0:Nat) (0:Nat) 0 [],(Ad c ⟨k1,true,a1,D0⟩ 2).2):=by simp only[Ai,As,Au,Aw,Bt,Cw Bx,Cc,Az,Cd,Ar,q_kl,q_km,e0];rfl
   rw[eR];rw[Bn];exact hN
  cases b2;rotate_left
  ·have eR:Ai c T ns k [76,77,120,116,98] ⟨k0,false,a0,D0⟩=(.mk k (u0:Nat) (u1:Nat) 0 [],(Ad c ⟨k2,true,a2,D0⟩ 2).2):=by simp only[Ai,As,Au,Aw,Bt,Cw Bx,Cc,Az,Cd,Ar,q_kl,q_km,e0,e1];rfl
   rw[eR];rw[Bn];exact hN
  cases b3;rotate_left
  ·have eR:Ai c T ns k [76,77,120,116,98] ⟨k0,false,a0,D0⟩=(.mk k (u0:Nat) (u1:Nat) 0 [],(Ad c ⟨k3,true,a3,D0⟩ 2).2):=by simp only[Ai,As,Au,Aw,Bt,Cw Bx,Cc,Az,Cd,Ar,q_kl,q_km,e0,e1,e2];rfl
   rw[eR];rw[Bn];exact hN
  cases b4;rotate_left
  ·have eR:Ai c T ns k [76,77,120,116,98] ⟨k0,false,a0,D0⟩=(.mk k (u0:Nat) (u1:Nat) 0 [u3],(Ad c ⟨k4,true,a4,D4⟩ 2).2):=by simp only[Ai,As,Au,Aw,Bt,Cw Bx,Cc,Az,Cd,Ar,q_kl,q_km,e0,e1,e2,e3];rfl
   rw[eR];rw[Bn];exact N4
  have eR:Ai c T ns k [76,77,120,116,98] ⟨k0,false,a0,D0⟩=(.mk k (u0:Nat) (u1:Nat) 0 [u3,u4],(Ad c ⟨k5,b5,a5,D5⟩ 2).2):=by simp only[Ai,As,Au,Aw,Bt,Cw Bx,Cc,Az,Cd,Ar,q_kl,q_km,e0,e1,e2,e3,e4];rfl
  rw[eR];rw[Bn];exact N5
 refine Ib (r:=.agg true (tvn (Ai c T ns k [76,77,120,116,98] ⟨k0,false,a0,D0⟩).1)) ?_ (Jd _);have Mk:5<=140737488355328:=by decide
 have Bd:(ns.reverse.map wdG).length=ns.length:=by simp
 have Bb:ns.length*16<=140737488355328:=by omega
 have Bc:ns.length<=140737488355328:=by omega
 have Be:(ns.length+1)*16<=140737488355328:=by omega
 have Bf:ns.length<=140737488355327:=by omega
 rw[show nmG (u2::ns)=.dsl 1 (ns.reverse.map wdG++[[SV.str (bs u2)]]) by simp[nmG,wdG]] at c4;rw[show nmG ns=.dsl 1 (ns.reverse.map wdG) from rfl] at *
 generalize ns.reverse.map wdG=R at *
 have Av:List.take (ns.length+1) (R++[[SV.str (bs u2)]])=R++[[SV.str (bs u2)]]:=q_js (by simp;omega);refine Bq mixed Tryz.func190 tr190 ?_;unfold rdS at c0 c1 c2 c3 c4 |-;simp only[go_sem,seval,Gg];refine Dv 6 (Ao ?_);simp only[go_sem,seval,v76,v77,v98,v116,v120,wq7,wq8,Al,z3,z4,Bd,Bb,Bc,Be,Bf,Av];refine Ac c0 ?_;simp only[go_sem,seval,v76,v77,v98,v116,v120,wq7,wq8,Al,z3,z4,Bd,Bb,Bc,Be,Bf,Av];cases b1;rotate_left
 ·refine Ao ?_;have ce:=Cs (nm:=.dsl 1 R) (s:=⟨k1,true,a1,D0⟩) (G:=G++D0) hc 2;have eR:Ai c T ns k [76,77,120,116,98] ⟨k0,false,a0,D0⟩=(.mk k (u0:Nat) (0:Nat) 0 [],(Ad c ⟨k1,true,a1,D0⟩ 2).2):=by simp only[Ai,As,Au,Aw,Bt,Cw Bx,Cc,Az,Cd,Ar,q_kl,q_km,e0];rfl
  rw[eR,Bn,Ip];unfold rdS at ce;simp only[go_sem,seval,v76,v77,v98,v116,v120,wq7,wq8,Al,z3,z4,Bd,Bb,Bc,Be,Bf,Av];refine Ac ce ?_;simp only[go_sem,seval,v76,v77,v98,v116,v120,wq7,wq8,Al,z3,z4,Bd,Bb,Bc,Be,Bf,Av,q_h,q_i]
 refine Ao ?_;simp only[go_sem,seval,v76,v77,v98,v116,v120,wq7,wq8,Al,z3,z4,Bd,Bb,Bc,Be,Bf,Av];refine Ac c1 ?_;simp only[go_sem,seval,v76,v77,v98,v116,v120,wq7,wq8,Al,z3,z4,Bd,Bb,Bc,Be,Bf,Av];cases b2;rotate_left
 ·refine Ao ?_;have ce:=Cs (nm:=.dsl 1 R) (s:=⟨k2,true,a2,D0⟩) (G:=G++D0) hc 2;have eR:Ai c T ns k [76,77,120,116,98] ⟨k0,false,a0,D0⟩=(.mk k (u0:Nat) (u1:Nat) 0 [],(Ad c ⟨k2,true,a2,D0⟩ 2).2):=by simp only[Ai,As,Au,Aw,Bt,Cw Bx,Cc,Az,Cd,Ar,q_kl,q_km,e0,e1];rfl
  rw[eR,Bn,Ip];unfold rdS at ce;simp only[go_sem,seval,v76,v77,v98,v116,v120,wq7,wq8,Al,z3,z4,Bd,Bb,Bc,Be,Bf,Av];refine Ac ce ?_;simp only[go_sem,seval,v76,v77,v98,v116,v120,wq7,wq8,Al,z3,z4,Bd,Bb,Bc,Be,Bf,Av,q_h,q_i]
 refine Ao ?_;simp only[go_sem,seval,v76,v77,v98,v116,v120,wq7,wq8,Al,z3,z4,Bd,Bb,Bc,Be,Bf,Av];refine Ac c2 ?_;simp only[go_sem,seval,v76,v77,v98,v116,v120,wq7,wq8,Al,z3,z4,Bd,Bb,Bc,Be,Bf,Av];cases b3;rotate_left
 ·refine Ao ?_;have ce:=Cs (nm:=.dsl 1 R) (s:=⟨k3,true,a3,D0⟩) (G:=G++D0) hc 2;have eR:Ai c T ns k [76,77,120,116,98] ⟨k0,false,a0,D0⟩=(.mk k (u0:Nat) (u1:Nat) 0 [],(Ad c ⟨k3,true,a3,D0⟩ 2).2):=by simp only[Ai,As,Au,Aw,Bt,Cw Bx,Cc,Az,Cd,Ar,q_kl,q_km,e0,e1,e2];rfl
  rw[eR,Bn,Ip];unfold rdS at ce;simp only[go_sem,seval,v76,v77,v98,v116,v120,wq7,wq8,Al,z3,z4,Bd,Bb,Bc,Be,Bf,Av];refine Ac ce ?_;simp only[go_sem,seval,v76,v77,v98,v116,v120,wq7,wq8,Al,z3,z4,Bd,Bb,Bc,Be,Bf,Av,q_h,q_i]
 refine Ao ?_;simp only[go_sem,seval,v76,v77,v98,v116,v120,wq7,wq8,Al,z3,z4,Bd,Bb,Bc,Be,Bf,Av];refine Ac c3 ?_;simp only[go_sem,seval,v76,v77,v98,v116,v120,wq7,wq8,Al,z3,z4,Bd,Bb,Bc,Be,Bf,Av];cases b4;rotate_left
 ·refine Ao ?_;have ce:=Cs (nm:=.dsl 1 R) (s:=⟨k4,true,a4,D4⟩) (G:=G++D4) hc 2;have eR:Ai c T ns k [76,77,120,116,98] ⟨k0,false,a0,D0⟩=(.mk k (u0:Nat) (u1:Nat) 0 [u3],(Ad c ⟨k4,true,a4,D4⟩ 2).2):=by simp only[Ai,As,Au,Aw,Bt,Cw Bx,Cc,Az,Cd,Ar,q_kl,q_km,e0,e1,e2,e3];rfl
  rw[eR,Bn,Eo];unfold rdS at ce;simp only[go_sem,seval,v76,v77,v98,v116,v120,wq7,wq8,Al,z3,z4,Bd,Bb,Bc,Be,Bf,Av];refine Ac ce ?_;simp only[go_sem,seval,v76,v77,v98,v116,v120,wq7,wq8,Al,z3,z4,Bd,Bb,Bc,Be,Bf,Av,q_h,q_i]
 refine Ao ?_;simp only[go_sem,seval,v76,v77,v98,v116,v120,wq7,wq8,Al,z3,z4,Bd,Bb,Bc,Be,Bf,Av];refine Ac c4 ?_;simp only[go_sem,seval,v76,v77,v98,v116,v120,wq7,wq8,Al,z3,z4,Bd,Bb,Bc,Be,Bf,Av];refine Ao ?_;have ce:=Cs (nm:=.dsl 1 R) (s:=⟨k5,b5,a5,D5⟩) (G:=G++D5) hc 2;have eR:Ai c T ns k [76,77,120,116,98] ⟨k0,false,a0,D0⟩=(.mk k (u0:Nat) (u1:Nat) 0 [u3,u4],(Ad c ⟨k5,b5,a5,D5⟩ 2).2):=by simp only[Ai,As,Au,Aw,Bt,Cw Bx,Cc,Az,Cd,Ar,q_kl,q_km,e0,e1,e2,e3,e4];rfl
 rw[eR,Bn,Eo];unfold rdS at ce;simp only[go_sem,seval,v76,v77,v98,v116,v120,wq7,wq8,Al,z3,z4,Bd,Bb,Bc,Be,Bf,Av];refine Ac ce ?_;simp only[go_sem,seval,v76,v77,v98,v116,v120,wq7,wq8,Al,z3,z4,Bd,Bb,Bc,Be,Bf,Av,q_h,q_i]
def Axl(hc:Dc c)(hT:TCG c T f)(Bk:ns.length+3*f+2<100000000000)(hk:k<=12)(hb:s.bad=false)(hN:NGr s.D)(hG:NGr G)(hs:c.L.length<s.k+f):LCG c T ns k [76,77,120,116,98,98] s G:=by
 obtain⟨k0,b0,a0,D0⟩:=s;simp only at hs hN hb;subst hb;have Ar:ofR k=1:=by unfold ofR;rw[if_pos hk]
 have Gg:(k:Int)<=12:=by omega
 have Bx:k≠23:=by omega
 have Al:((k:Int)==23)=false:=by rw[beq_eq_false_iff_ne];omega
 have c0:=Lu (nm:=nmG ns) (G:=G++D0) hc (c.L.length+1) ⟨k0,false,a0,D0⟩ (q_ja _) (by simp only;omega) (by omega);have d0:=(Lw (c:=c) (c.L.length+1) ⟨k0,false,a0,D0⟩).symm;have m0:=Ei (c:=c) (c.L.length+1) ⟨k0,false,a0,D0⟩;generalize e0:Af c (c.L.length+1) ⟨k0,false,a0,D0⟩=q at c0 d0 m0;obtain⟨u0,k1,b1,a1,E1⟩:=q;simp only at c0 d0 m0;subst d0;have c1:=Lu (nm:=nmG ns) (G:=G++D0) hc (c.L.length+1) ⟨k1,false,a1,D0⟩ (q_ja _) (by simp only;omega) (by omega);have d1:=(Lw (c:=c) (c.L.length+1) ⟨k1,false,a1,D0⟩).symm;have m1:=Ei (c:=c) (c.L.length+1) ⟨k1,false,a1,D0⟩;generalize e1:Af c (c.L.length+1) ⟨k1,false,a1,D0⟩=q at c1 d1 m1;obtain⟨u1,k2,b2,a2,E2⟩:=q;simp only at c1 d1 m1;subst d1;have c2:=Cs (nm:=nmG ns) (s:=⟨k2,false,a2,D0⟩) (G:=G++D0) hc 3;have d2:=(Bn (c:=c) (s:=⟨k2,false,a2,D0⟩) 3).symm;have m2:=Ce (c:=c) (s:=⟨k2,false,a2,D0⟩) 3;generalize e2:Ad c ⟨k2,false,a2,D0⟩ 3=q at c2 d2 m2;obtain⟨u2,k3,b3,a3,E3⟩:=q;simp only at c2 d2 m2;subst d2;have t3:=hT ns 1 ⟨k3,false,a3,D0⟩ G (by first|omega|(simp only;omega)) (by first|omega|(simp at Bk |-;omega)) (by decide) hN hG;generalize e3:T ns 1 ⟨k3,false,a3,D0⟩=q at t3;obtain⟨u3,k4,b4,a4,D4⟩:=q;obtain⟨c3,m3,N4⟩:=t3;simp only at c3 m3 N4;have z3:=Br u3;have t4:=hT (u2::ns) 1 ⟨k4,false,a4,D4⟩ G (by first|omega|(simp only;omega)) (by first|omega|(simp at Bk |-;omega)) (by decide) N4 hG;generalize e4:T (u2::ns) 1 ⟨k4,false,a4,D4⟩=q at t4;obtain⟨u4,k5,b5,a5,D5⟩:=q;obtain⟨c4,m4,N5⟩:=t4;simp only at c4 m4 N5;have z4:=Br u4;have t5:=hT (u2::ns) 1 ⟨k5,false,a5,D5⟩ G (by first|omega|(simp only;omega)) (by first|omega|(simp at Bk |-;omega)) (by decide) N5 hG;generalize e5:T (u2::ns) 1 ⟨k5,false,a5,D5⟩=q at t5;obtain⟨u5,k6,b6,a6,D6⟩:=q;obtain⟨c5,m5,N6⟩:=t5;simp only at c5 m5 N6;have z5:=Br u5;refine⟨?_,?_,?_⟩;rotate_left
 ·cases b1;rotate_left
  ·have eR:Ai c T ns k [76,77,120,116,98,98] ⟨k0,false,a0,D0⟩=(.mk k (u0:Nat) (0:Nat) 0 [],(Ad c ⟨k1,true,a1,D0⟩ 2).2):=by simp only[Ai,As,Au,Aw,Bt,Cw Bx,Cc,Az,Cd,Ar,q_kl,q_km,e0];rfl
   rw[eR];refine q_kn ?_ (Ce 2);first|omega|(simp only;omega)
  cases b2;rotate_left
  ·have eR:Ai c T ns k [76,77,120,116,98,98] ⟨k0,false,a0,D0⟩=(.mk k (u0:Nat) (u1:Nat) 0 [],(Ad c ⟨k2,true,a2,D0⟩ 2).2):=by simp only[Ai,As,Au,Aw,Bt,Cw Bx,Cc,Az,Cd,Ar,q_kl,q_km,e0,e1];rfl
   rw[eR];refine q_kn ?_ (Ce 2);first|omega|(simp only;omega)
  cases b3;rotate_left
  ·have eR:Ai c T ns k [76,77,120,116,98,98] ⟨k0,false,a0,D0⟩=(.mk k (u0:Nat) (u1:Nat) 0 [],(Ad c ⟨k3,true,a3,D0⟩ 2).2):=by simp only[Ai,As,Au,Aw,Bt,Cw Bx,Cc,Az,Cd,Ar,q_kl,q_km,e0,e1,e2];rfl
   rw[eR];refine q_kn ?_ (Ce 2);first|omega|(simp only;omega)
  cases b4;rotate_left
  ·have eR:Ai c T ns k [76,77,120,116,98,98] ⟨k0,false,a0,D0⟩=(.mk k (u0:Nat) (u1:Nat) 0 [u3],(Ad c ⟨k4,true,a4,D4⟩ 2).2):=by simp only[Ai,As,Au,Aw,Bt,Cw Bx,Cc,Az,Cd,Ar,q_kl,q_km,e0,e1,e2,e3];rfl
   rw[eR];refine q_kn ?_ (Ce 2);first|omega|(simp only;omega)
  cases b5;rotate_left
  ·have eR:Ai c T ns k [76,77,120,116,98,98] ⟨k0,false,a0,D0⟩=(.mk k (u0:Nat) (u1:Nat) 0 [u3,u4],(Ad c ⟨k5,true,a5,D5⟩ 2).2):=by simp only[Ai,As,Au,Aw,Bt,Cw Bx,Cc,Az,Cd,Ar,q_kl,q_km,e0,e1,e2,e3,e4];rfl
   rw[eR];refine q_kn ?_ (Ce 2);first|omega|(simp only;omega)
  have eR:Ai c T ns k [76,77,120,116,98,98] ⟨k0,false,a0,D0⟩=(.mk k (u0:Nat) (u1:Nat) 0 [u3,u4,u5],(Ad c ⟨k6,b6,a6,D6⟩ 2).2):=by simp only[Ai,As,Au,Aw,Bt,Cw Bx,Cc,Az,Cd,Ar,q_kl,q_km,e0,e1,e2,e3,e4,e5];rfl
  rw[eR];refine q_kn ?_ (Ce 2);first|omega|(simp only;omega)
 ·cases b1;rotate_left
  ·have eR:Ai c T ns k [76,77,120,116,98,98] ⟨k0,false,a0,D0⟩=(.mk k (u0:Nat) (0:Nat) 0 [],(Ad c ⟨k1,true,a1,D0⟩ 2).2):=by simp only[Ai,As,Au,Aw,Bt,Cw Bx,Cc,Az,Cd,Ar,q_kl,q_km,e0];rfl
   rw[eR];rw[Bn];exact hN
  cases b2;rotate_left
  ·have eR:Ai c T ns k [76,77,120,116,98,98] ⟨k0,false,a0,D0⟩=(.mk k (u0:Nat) (u1:Nat) 0 [],(Ad c ⟨k2,true,a2,D0⟩ 2).2):=by simp only[Ai,As,Au,Aw,Bt,Cw Bx,Cc,Az,Cd,Ar,q_kl,q_km,e0,e1];rfl
   rw[eR];rw[Bn];exact hN
  cases b3;rotate_left
  ·have eR:Ai c T ns k [76,77,120,116,98,98] ⟨k0,false,a0,D0⟩=(.mk k (u0:Nat) (u1:Nat) 0 [],(Ad c ⟨k3,true,a3,D0⟩ 2).2):=by simp only[Ai,As,Au,Aw,Bt,Cw Bx,Cc,Az,Cd,Ar,q_kl,q_km,e0,e1,e2];rfl
   rw[eR];rw[Bn];exact hN
  cases b4;rotate_left
  ·have eR:Ai c T ns k [76,77,120,116,98,98] ⟨k0,false,a0,D0⟩=(.mk k (u0:Nat) (u1:Nat) 0 [u3],(Ad c ⟨k4,true,a4,D4⟩ 2).2):=by simp only[Ai,As,Au,Aw,Bt,Cw Bx,Cc,Az,Cd,Ar,q_kl,q_km,e0,e1,e2,e3];rfl
   rw[eR];rw[Bn];exact N4
  cases b5;rotate_left
  ·have eR:Ai c T ns k [76,77,120,116,98,98] ⟨k0,false,a0,D0⟩=(.mk k (u0:Nat) (u1:Nat) 0 [u3,u4],(Ad c ⟨k5,true,a5,D5⟩ 2).2):=by simp only[Ai,As,Au,Aw,Bt,Cw Bx,Cc,Az,Cd,Ar,q_kl,q_km,e0,e1,e2,e3,e4];rfl
   rw[eR];rw[Bn];exact N5
  have eR:Ai c T ns k [76,77,120,116,98,98] ⟨k0,false,a0,D0⟩=(.mk k (u0:Nat) (u1:Nat) 0 [u3,u4,u5],(Ad c ⟨k6,b6,a6,D6⟩ 2).2):=by simp only[Ai,As,Au,Aw,Bt,Cw Bx,Cc,Az,Cd,Ar,q_kl,q_km,e0,e1,e2,e3,e4,e5];rfl
  rw[eR];rw[Bn];exact N6
 refine Ib (r:=.agg true (tvn (Ai c T ns k [76,77,120,116,98,98] ⟨k0,false,a0,D0⟩).1)) ?_ (Jd _);have Mk:6<=140737488355328:=by decide
 have Bd:(ns.reverse.map wdG).length=ns.length:=by simp
 have Bb:ns.length*16<=140737488355328:=by omega
 have Bc:ns.length<=140737488355328:=by omega
 have Be:(ns.length+1)*16<=140737488355328:=by omega
 have Bf:ns.length<=140737488355327:=by omega
 rw[show nmG (u2::ns)=.dsl 1 (ns.reverse.map wdG++[[SV.str (bs u2)]]) by simp[nmG,wdG]] at c4;rw[show nmG (u2::ns)=.dsl 1 (ns.reverse.map wdG++[[SV.str (bs u2)]]) by simp[nmG,wdG]] at c5;rw[show nmG ns=.dsl 1 (ns.reverse.map wdG) from rfl] at *
 generalize ns.reverse.map wdG=R at *
 have Av:List.take (ns.length+1) (R++[[SV.str (bs u2)]])=R++[[SV.str (bs u2)]]:=q_js (by simp;omega);refine Bq mixed Tryz.func190 tr190 ?_;unfold rdS at c0 c1 c2 c3 c4 c5 |-;simp only[go_sem,seval,Gg];refine Dv 7 (Ao ?_);simp only[go_sem,seval,v76,v77,v98,v116,v120,wq7,wq8,Al,z3,z4,z5,Bd,Bb,Bc,Be,Bf,Av];refine Ac c0 ?_;simp only[go_sem,seval,v76,v77,v98,v116,v120,wq7,wq8,Al,z3,z4,z5,Bd,Bb,Bc,Be,Bf,Av];cases b1;rotate_left
 ·refine Ao ?_;have ce:=Cs (nm:=.dsl 1 R) (s:=⟨k1,true,a1,D0⟩) (G:=G++D0) hc 2;have eR:Ai c T ns k [76,77,120,116,98,98] ⟨k0,false,a0,D0⟩=(.mk k (u0:Nat) (0:Nat) 0 [],(Ad c ⟨k1,true,a1,D0⟩ 2).2):=by simp only[Ai,As,Au,Aw,Bt,Cw Bx,Cc,Az,Cd,Ar,q_kl,q_km,e0];rfl
  rw[eR,Bn,Ip];unfold rdS at ce;simp only[go_sem,seval,v76,v77,v98,v116,v120,wq7,wq8,Al,z3,z4,z5,Bd,Bb,Bc,Be,Bf,Av];refine Ac ce ?_;simp only[go_sem,seval,v76,v77,v98,v116,v120,wq7,wq8,Al,z3,z4,z5,Bd,Bb,Bc,Be,Bf,Av,q_h,q_i]
 refine Ao ?_;simp only[go_sem,seval,v76,v77,v98,v116,v120,wq7,wq8,Al,z3,z4,z5,Bd,Bb,Bc,Be,Bf,Av];refine Ac c1 ?_;simp only[go_sem,seval,v76,v77,v98,v116,v120,wq7,wq8,Al,z3,z4,z5,Bd,Bb,Bc,Be,Bf,Av];cases b2;rotate_left
 ·refine Ao ?_;have ce:=Cs (nm:=.dsl 1 R) (s:=⟨k2,true,a2,D0⟩) (G:=G++D0) hc 2;have eR:Ai c T ns k [76,77,120,116,98,98] ⟨k0,false,a0,D0⟩=(.mk k (u0:Nat) (u1:Nat) 0 [],(Ad c ⟨k2,true,a2,D0⟩ 2).2):=by simp only[Ai,As,Au,Aw,Bt,Cw Bx,Cc,Az,Cd,Ar,q_kl,q_km,e0,e1];rfl
  rw[eR,Bn,Ip];unfold rdS at ce;simp only[go_sem,seval,v76,v77,v98,v116,v120,wq7,wq8,Al,z3,z4,z5,Bd,Bb,Bc,Be,Bf,Av];refine Ac ce ?_;simp only[go_sem,seval,v76,v77,v98,v116,v120,wq7,wq8,Al,z3,z4,z5,Bd,Bb,Bc,Be,Bf,Av,q_h,q_i]
 refine Ao ?_;simp only[go_sem,seval,v76,v77,v98,v116,v120,wq7,wq8,Al,z3,z4,z5,Bd,Bb,Bc,Be,Bf,Av];refine Ac c2 ?_;simp only[go_sem,seval,v76,v77,v98,v116,v120,wq7,wq8,Al,z3,z4,z5,Bd,Bb,Bc,Be,Bf,Av];cases b3;rotate_left
 ·refine Ao ?_;have ce:=Cs (nm:=.dsl 1 R) (s:=⟨k3,true,a3,D0⟩) (G:=G++D0) hc 2;have eR:Ai c T ns k [76,77,120,116,98,98] ⟨k0,false,a0,D0⟩=(.mk k (u0:Nat) (u1:Nat) 0 [],(Ad c ⟨k3,true,a3,D0⟩ 2).2):=by simp only[Ai,As,Au,Aw,Bt,Cw Bx,Cc,Az,Cd,Ar,q_kl,q_km,e0,e1,e2];rfl
  rw[eR,Bn,Ip];unfold rdS at ce;simp only[go_sem,seval,v76,v77,v98,v116,v120,wq7,wq8,Al,z3,z4,z5,Bd,Bb,Bc,Be,Bf,Av];refine Ac ce ?_;simp only[go_sem,seval,v76,v77,v98,v116,v120,wq7,wq8,Al,z3,z4,z5,Bd,Bb,Bc,Be,Bf,Av,q_h,q_i]
 refine Ao ?_;simp only[go_sem,seval,v76,v77,v98,v116,v120,wq7,wq8,Al,z3,z4,z5,Bd,Bb,Bc,Be,Bf,Av];refine Ac c3 ?_;simp only[go_sem,seval,v76,v77,v98,v116,v120,wq7,wq8,Al,z3,z4,z5,Bd,Bb,Bc,Be,Bf,Av];cases b4;rotate_left
 ·refine Ao ?_;have ce:=Cs (nm:=.dsl 1 R) (s:=⟨k4,true,a4,D4⟩) (G:=G++D4) hc 2;have eR:Ai c T ns k [76,77,120,116,98,98] ⟨k0,false,a0,D0⟩=(.mk k (u0:Nat) (u1:Nat) 0 [u3],(Ad c ⟨k4,true,a4,D4⟩ 2).2):=by simp only[Ai,As,Au,Aw,Bt,Cw Bx,Cc,Az,Cd,Ar,q_kl,q_km,e0,e1,e2,e3];rfl
  rw[eR,Bn,Eo];unfold rdS at ce;simp only[go_sem,seval,v76,v77,v98,v116,v120,wq7,wq8,Al,z3,z4,z5,Bd,Bb,Bc,Be,Bf,Av];refine Ac ce ?_;simp only[go_sem,seval,v76,v77,v98,v116,v120,wq7,wq8,Al,z3,z4,z5,Bd,Bb,Bc,Be,Bf,Av,q_h,q_i]
 refine Ao ?_;simp only[go_sem,seval,v76,v77,v98,v116,v120,wq7,wq8,Al,z3,z4,z5,Bd,Bb,Bc,Be,Bf,Av];refine Ac c4 ?_;simp only[go_sem,seval,v76,v77,v98,v116,v120,wq7,wq8,Al,z3,z4,z5,Bd,Bb,Bc,Be,Bf,Av];cases b5;rotate_left
 ·refine Ao ?_;have ce:=Cs (nm:=.dsl 1 R) (s:=⟨k5,true,a5,D5⟩) (G:=G++D5) hc 2;have eR:Ai c T ns k [76,77,120,116,98,98] ⟨k0,false,a0,D0⟩=(.mk k (u0:Nat) (u1:Nat) 0 [u3,u4],(Ad c ⟨k5,true,a5,D5⟩ 2).2):=by simp only[Ai,As,Au,Aw,Bt,Cw Bx,Cc,Az,Cd,Ar,q_kl,q_km,e0,e1,e2,e3,e4];rfl
  rw[eR,Bn,Eo];unfold rdS at ce;simp only[go_sem,seval,v76,v77,v98,v116,v120,wq7,wq8,Al,z3,z4,z5,Bd,Bb,Bc,Be,Bf,Av];refine Ac ce ?_;simp only[go_sem,seval,v76,v77,v98,v116,v120,wq7,wq8,Al,z3,z4,z5,Bd,Bb,Bc,Be,Bf,Av,q_h,q_i]
 refine Ao ?_;simp only[go_sem,seval,v76,v77,v98,v116,v120,wq7,wq8,Al,z3,z4,z5,Bd,Bb,Bc,Be,Bf,Av];refine Ac c5 ?_;simp only[go_sem,seval,v76,v77,v98,v116,v120,wq7,wq8,Al,z3,z4,z5,Bd,Bb,Bc,Be,Bf,Av];refine Ao ?_;have ce:=Cs (nm:=.dsl 1 R) (s:=⟨k6,b6,a6,D6⟩) (G:=G++D6) hc 2;have eR:Ai c T ns k [76,77,120,116,98,98] ⟨k0,false,a0,D0⟩=(.mk k (u0:Nat) (u1:Nat) 0 [u3,u4,u5],(Ad c ⟨k6,b6,a6,D6⟩ 2).2):=by simp only[Ai,As,Au,Aw,Bt,Cw Bx,Cc,Az,Cd,Ar,q_kl,q_km,e0,e1,e2,e3,e4,e5];rfl
 rw[eR,Bn,Eo];unfold rdS at ce;simp only[go_sem,seval,v76,v77,v98,v116,v120,wq7,wq8,Al,z3,z4,z5,Bd,Bb,Bc,Be,Bf,Av];refine Ac ce ?_;simp only[go_sem,seval,v76,v77,v98,v116,v120,wq7,wq8,Al,z3,z4,z5,Bd,Bb,Bc,Be,Bf,Av,q_h,q_i]
def Akm(hc:Dc c)(hT:TCG c T f)(Bk:ns.length+3*f+2<100000000000)(hk:k<=12)(hb:s.bad=false)(hN:NGr s.D)(hG:NGr G)(hs:c.L.length<s.k+f):LCG c T ns k [76,77,120,116,98,116] s G:=by
 obtain⟨k0,b0,a0,D0⟩:=s;simp only at hs hN hb;subst hb;have Ar:ofR k=1:=by unfold ofR;rw[if_pos hk]
 have Gg:(k:Int)<=12:=by omega
 have Bx:k≠23:=by omega
 have Al:((k:Int)==23)=false:=by rw[beq_eq_false_iff_ne];omega
 have c0:=Lu (nm:=nmG ns) (G:=G++D0) hc (c.L.length+1) ⟨k0,false,a0,D0⟩ (q_ja _) (by simp only;omega) (by omega);have d0:=(Lw (c:=c) (c.L.length+1) ⟨k0,false,a0,D0⟩).symm;have m0:=Ei (c:=c) (c.L.length+1) ⟨k0,false,a0,D0⟩;generalize e0:Af c (c.L.length+1) ⟨k0,false,a0,D0⟩=q at c0 d0 m0;obtain⟨u0,k1,b1,a1,E1⟩:=q;simp only at c0 d0 m0;subst d0;have c1:=Lu (nm:=nmG ns) (G:=G++D0) hc (c.L.length+1) ⟨k1,false,a1,D0⟩ (q_ja _) (by simp only;omega) (by omega);have d1:=(Lw (c:=c) (c.L.length+1) ⟨k1,false,a1,D0⟩).symm;have m1:=Ei (c:=c) (c.L.length+1) ⟨k1,false,a1,D0⟩;generalize e1:Af c (c.L.length+1) ⟨k1,false,a1,D0⟩=q at c1 d1 m1;obtain⟨u1,k2,b2,a2,E2⟩:=q;simp only at c1 d1 m1;subst d1;have c2:=Cs (nm:=nmG ns) (s:=⟨k2,false,a2,D0⟩) (G:=G++D0) hc 3;have d2:=(Bn (c:=c) (s:=⟨k2,false,a2,D0⟩) 3).symm;have m2:=Ce (c:=c) (s:=⟨k2,false,a2,D0⟩) 3;generalize e2:Ad c ⟨k2,false,a2,D0⟩ 3=q at c2 d2 m2;obtain⟨u2,k3,b3,a3,E3⟩:=q;simp only at c2 d2 m2;subst d2;have t3:=hT ns 1 ⟨k3,false,a3,D0⟩ G (by first|omega|(simp only;omega)) (by first|omega|(simp at Bk |-;omega)) (by decide) hN hG;generalize e3:T ns 1 ⟨k3,false,a3,D0⟩=q at t3;obtain⟨u3,k4,b4,a4,D4⟩:=q;obtain⟨c3,m3,N4⟩:=t3;simp only at c3 m3 N4;have z3:=Br u3;have t4:=hT (u2::ns) 1 ⟨k4,false,a4,D4⟩ G (by first|omega|(simp only;omega)) (by first|omega|(simp at Bk |-;omega)) (by decide) N4 hG;generalize e4:T (u2::ns) 1 ⟨k4,false,a4,D4⟩=q at t4;obtain⟨u4,k5,b5,a5,D5⟩:=q;obtain⟨c4,m4,N5⟩:=t4;simp only at c4 m4 N5;have z4:=Br u4;have t5:=hT ns 1 ⟨k5,false,a5,D5⟩ G (by first|omega|(simp only;omega)) (by first|omega|(simp at Bk |-;omega)) (by decide) N5 hG;generalize e5:T ns 1 ⟨k5,false,a5,D5⟩=q at t5;obtain⟨u5,k6,b6,a6,D6⟩:=q;obtain⟨c5,m5,N6⟩:=t5;simp only at c5 m5 N6;have z5:=Br u5;refine⟨?_,?_,?_⟩;rotate_left
 ·cases b1;rotate_left
  ·have eR:Ai c T ns k [76,77,120,116,98,116] ⟨k0,false,a0,D0⟩=(.mk k (u0:Nat) (0:Nat) 0 [],(Ad c ⟨k1,true,a1,D0⟩ 2).2):=by simp only[Ai,As,Au,Aw,Bt,Cw Bx,Cc,Az,Cd,Ar,q_kl,q_km,e0];rfl
   rw[eR];refine q_kn ?_ (Ce 2);first|omega|(simp only;omega)
  cases b2;rotate_left
  ·have eR:Ai c T ns k [76,77,120,116,98,116] ⟨k0,false,a0,D0⟩=(.mk k (u0:Nat) (u1:Nat) 0 [],(Ad c ⟨k2,true,a2,D0⟩ 2).2):=by simp only[Ai,As,Au,Aw,Bt,Cw Bx,Cc,Az,Cd,Ar,q_kl,q_km,e0,e1];rfl
   rw[eR];refine q_kn ?_ (Ce 2);first|omega|(simp only;omega)
  cases b3;rotate_left
  ·have eR:Ai c T ns k [76,77,120,116,98,116] ⟨k0,false,a0,D0⟩=(.mk k (u0:Nat) (u1:Nat) 0 [],(Ad c ⟨k3,true,a3,D0⟩ 2).2):=by simp only[Ai,As,Au,Aw,Bt,Cw Bx,Cc,Az,Cd,Ar,q_kl,q_km,e0,e1,e2];rfl
   rw[eR];refine q_kn ?_ (Ce 2);first|omega|(simp only;omega)
  cases b4;rotate_left
  ·have eR:Ai c T ns k [76,77,120,116,98,116] ⟨k0,false,a0,D0⟩=(.mk k (u0:Nat) (u1:Nat) 0 [u3],(Ad c ⟨k4,true,a4,D4⟩ 2).2):=by simp only[Ai,As,Au,Aw,Bt,Cw Bx,Cc,Az,Cd,Ar,q_kl,q_km,e0,e1,e2,e3];rfl
   rw[eR];refine q_kn ?_ (Ce 2);first|omega|(simp only;omega)
  cases b5;rotate_left
  ·have eR:Ai c T ns k [76,77,120,116,98,116] ⟨k0,false,a0,D0⟩=(.mk k (u0:Nat) (u1:Nat) 0 [u3,u4],(Ad c ⟨k5,true,a5,D5⟩ 2).2):=by simp only[Ai,As,Au,Aw,Bt,Cw Bx,Cc,Az,Cd,Ar,q_kl,q_km,e0,e1,e2,e3,e4];rfl
   rw[eR];refine q_kn ?_ (Ce 2);first|omega|(simp only;omega)
  have eR:Ai c T ns k [76,77,120,116,98,116] ⟨k0,false,a0,D0⟩=(.mk k (u0:Nat) (u1:Nat) 0 [u3,u4,u5],(Ad c ⟨k6,b6,a6,D6⟩ 2).2):=by simp only[Ai,As,Au,Aw,Bt,Cw Bx,Cc,Az,Cd,Ar,q_kl,q_km,e0,e1,e2,e3,e4,e5];rfl
  rw[eR];refine q_kn ?_ (Ce 2);first|omega|(simp only;omega)
 ·cases b1;rotate_left
  ·have eR:Ai c T ns k [76,77,120,116,98,116] ⟨k0,false,a0,D0⟩=(.mk k (u0:Nat) (0:Nat) 0 [],(Ad c ⟨k1,true,a1,D0⟩ 2).2):=by simp only[Ai,As,Au,Aw,Bt,Cw Bx,Cc,Az,Cd,Ar,q_kl,q_km,e0];rfl
   rw[eR];rw[Bn];exact hN
  cases b2;rotate_left
  ·have eR:Ai c T ns k [76,77,120,116,98,116] ⟨k0,false,a0,D0⟩=(.mk k (u0:Nat) (u1:Nat) 0 [],(Ad c ⟨k2,true,a2,D0⟩ 2).2):=by simp only[Ai,As,Au,Aw,Bt,Cw Bx,Cc,Az,Cd,Ar,q_kl,q_km,e0,e1];rfl
   rw[eR];rw[Bn];exact hN
  cases b3;rotate_left
  ·have eR:Ai c T ns k [76,77,120,116,98,116] ⟨k0,false,a0,D0⟩=(.mk k (u0:Nat) (u1:Nat) 0 [],(Ad c ⟨k3,true,a3,D0⟩ 2).2):=by simp only[Ai,As,Au,Aw,Bt,Cw Bx,Cc,Az,Cd,Ar,q_kl,q_km,e0,e1,e2];rfl
   rw[eR];rw[Bn];exact hN
  cases b4;rotate_left
  ·have eR:Ai c T ns k [76,77,120,116,98,116] ⟨k0,false,a0,D0⟩=(.mk k (u0:Nat) (u1:Nat) 0 [u3],(Ad c ⟨k4,true,a4,D4⟩ 2).2):=by simp only[Ai,As,Au,Aw,Bt,Cw Bx,Cc,Az,Cd,Ar,q_kl,q_km,e0,e1,e2,e3];rfl
   rw[eR];rw[Bn];exact N4
  cases b5;rotate_left
  ·have eR:Ai c T ns k [76,77,120,116,98,116] ⟨k0,false,a0,D0⟩=(.mk k (u0:Nat) (u1:Nat) 0 [u3,u4],(Ad c ⟨k5,true,a5,D5⟩ 2).2):=by simp only[Ai,As,Au,Aw,Bt,Cw Bx,Cc,Az,Cd,Ar,q_kl,q_km,e0,e1,e2,e3,e4];rfl
   rw[eR];rw[Bn];exact N5
  have eR:Ai c T ns k [76,77,120,116,98,116] ⟨k0,false,a0,D0⟩=(.mk k (u0:Nat) (u1:Nat) 0 [u3,u4,u5],(Ad c ⟨k6,b6,a6,D6⟩ 2).2):=by simp only[Ai,As,Au,Aw,Bt,Cw Bx,Cc,Az,Cd,Ar,q_kl,q_km,e0,e1,e2,e3,e4,e5];rfl
  rw[eR];rw[Bn];exact N6
 refine Ib (r:=.agg true (tvn (Ai c T ns k [76,77,120,116,98,116] ⟨k0,false,a0,D0⟩).1)) ?_ (Jd _);have Mk:6<=140737488355328:=by decide
 have Bd:(ns.reverse.map wdG).length=ns.length:=by simp
 have Bb:ns.length*16<=140737488355328:=by omega
 have Bc:ns.length<=140737488355328:=by omega
 have Be:(ns.length+1)*16<=140737488355328:=by omega
 have Bf:ns.length<=140737488355327:=by omega
 rw[show nmG (u2::ns)=.dsl 1 (ns.reverse.map wdG++[[SV.str (bs u2)]]) by simp[nmG,wdG]] at c4;rw[show nmG ns=.dsl 1 (ns.reverse.map wdG) from rfl] at *
 generalize ns.reverse.map wdG=R at *
 have Av:List.take (ns.length+1) (R++[[SV.str (bs u2)]])=R++[[SV.str (bs u2)]]:=q_js (by simp;omega);refine Bq mixed Tryz.func190 tr190 ?_;unfold rdS at c0 c1 c2 c3 c4 c5 |-;simp only[go_sem,seval,Gg];refine Dv 7 (Ao ?_);simp only[go_sem,seval,v76,v77,v98,v116,v120,wq7,wq8,Al,z3,z4,z5,Bd,Bb,Bc,Be,Bf,Av];refine Ac c0 ?_;simp only[go_sem,seval,v76,v77,v98,v116,v120,wq7,wq8,Al,z3,z4,z5,Bd,Bb,Bc,Be,Bf,Av];cases b1;rotate_left
 ·refine Ao ?_;have ce:=Cs (nm:=.dsl 1 R) (s:=⟨k1,true,a1,D0⟩) (G:=G++D0) hc 2;have eR:Ai c T ns k [76,77,120,116,98,116] ⟨k0,false,a0,D0⟩=(.mk k (u0:Nat) (0:Nat) 0 [],(Ad c ⟨k1,true,a1,D0⟩ 2).2):=by simp only[Ai,As,Au,Aw,Bt,Cw Bx,Cc,Az,Cd,Ar,q_kl,q_km,e0];rfl
  rw[eR,Bn,Ip];unfold rdS at ce;simp only[go_sem,seval,v76,v77,v98,v116,v120,wq7,wq8,Al,z3,z4,z5,Bd,Bb,Bc,Be,Bf,Av];refine Ac ce ?_;simp only[go_sem,seval,v76,v77,v98,v116,v120,wq7,wq8,Al,z3,z4,z5,Bd,Bb,Bc,Be,Bf,Av,q_h,q_i]
 refine Ao ?_;simp only[go_sem,seval,v76,v77,v98,v116,v120,wq7,wq8,Al,z3,z4,z5,Bd,Bb,Bc,Be,Bf,Av];refine Ac c1 ?_;simp only[go_sem,seval,v76,v77,v98,v116,v120,wq7,wq8,Al,z3,z4,z5,Bd,Bb,Bc,Be,Bf,Av];cases b2;rotate_left
 ·refine Ao ?_;have ce:=Cs (nm:=.dsl 1 R) (s:=⟨k2,true,a2,D0⟩) (G:=G++D0) hc 2;have eR:Ai c T ns k [76,77,120,116,98,116] ⟨k0,false,a0,D0⟩=(.mk k (u0:Nat) (u1:Nat) 0 [],(Ad c ⟨k2,true,a2,D0⟩ 2).2):=by simp only[Ai,As,Au,Aw,Bt,Cw Bx,Cc,Az,Cd,Ar,q_kl,q_km,e0,e1];rfl
  rw[eR,Bn,Ip];unfold rdS at ce;simp only[go_sem,seval,v76,v77,v98,v116,v120,wq7,wq8,Al,z3,z4,z5,Bd,Bb,Bc,Be,Bf,Av];refine Ac ce ?_;simp only[go_sem,seval,v76,v77,v98,v116,v120,wq7,wq8,Al,z3,z4,z5,Bd,Bb,Bc,Be,Bf,Av,q_h,q_i]
 refine Ao ?_;simp only[go_sem,seval,v76,v77,v98,v116,v120,wq7,wq8,Al,z3,z4,z5,Bd,Bb,Bc,Be,Bf,Av];refine Ac c2 ?_;simp only[go_sem,seval,v76,v77,v98,v116,v120,wq7,wq8,Al,z3,z4,z5,Bd,Bb,Bc,Be,Bf,Av];cases b3;rotate_left
 ·refine Ao ?_;have ce:=Cs (nm:=.dsl 1 R) (s:=⟨k3,true,a3,D0⟩) (G:=G++D0) hc 2;have eR:Ai c T ns k [76,77,120,116,98,116] ⟨k0,false,a0,D0⟩=(.mk k (u0:Nat) (u1:Nat) 0 [],(Ad c ⟨k3,true,a3,D0⟩ 2).2):=by simp only[Ai,As,Au,Aw,Bt,Cw Bx,Cc,Az,Cd,Ar,q_kl,q_km,e0,e1,e2];rfl
  rw[eR,Bn,Ip];unfold rdS at ce;simp only[go_sem,seval,v76,v77,v98,v116,v120,wq7,wq8,Al,z3,z4,z5,Bd,Bb,Bc,Be,Bf,Av];refine Ac ce ?_;simp only[go_sem,seval,v76,v77,v98,v116,v120,wq7,wq8,Al,z3,z4,z5,Bd,Bb,Bc,Be,Bf,Av,q_h,q_i]
 refine Ao ?_;simp only[go_sem,seval,v76,v77,v98,v116,v120,wq7,wq8,Al,z3,z4,z5,Bd,Bb,Bc,Be,Bf,Av];refine Ac c3 ?_;simp only[go_sem,seval,v76,v77,v98,v116,v120,wq7,wq8,Al,z3,z4,z5,Bd,Bb,Bc,Be,Bf,Av];cases b4;rotate_left
 ·refine Ao ?_;have ce:=Cs (nm:=.dsl 1 R) (s:=⟨k4,true,a4,D4⟩) (G:=G++D4) hc 2;have eR:Ai c T ns k [76,77,120,116,98,116] ⟨k0,false,a0,D0⟩=(.mk k (u0:Nat) (u1:Nat) 0 [u3],(Ad c ⟨k4,true,a4,D4⟩ 2).2):=by simp only[Ai,As,Au,Aw,Bt,Cw Bx,Cc,Az,Cd,Ar,q_kl,q_km,e0,e1,e2,e3];rfl
  rw[eR,Bn,Eo];unfold rdS at ce;simp only[go_sem,seval,v76,v77,v98,v116,v120,wq7,wq8,Al,z3,z4,z5,Bd,Bb,Bc,Be,Bf,Av];refine Ac ce ?_;simp only[go_sem,seval,v76,v77,v98,v116,v120,wq7,wq8,Al,z3,z4,z5,Bd,Bb,Bc,Be,Bf,Av,q_h,q_i]
 refine Ao ?_;simp only[go_sem,seval,v76,v77,v98,v116,v120,wq7,wq8,Al,z3,z4,z5,Bd,Bb,Bc,Be,Bf,Av];refine Ac c4 ?_;simp only[go_sem,seval,v76,v77,v98,v116,v120,wq7,wq8,Al,z3,z4,z5,Bd,Bb,Bc,Be,Bf,Av];cases b5;rotate_left
 ·refine Ao ?_;have ce:=Cs (nm:=.dsl 1 R) (s:=⟨k5,true,a5,D5⟩) (G:=G++D5) hc 2;have eR:Ai c T ns k [76,77,120,116,98,116] ⟨k0,false,a0,D0⟩=(.mk k (u0:Nat) (u1:Nat) 0 [u3,u4],(Ad c ⟨k5,true,a5,D5⟩ 2).2):=by simp only[Ai,As,Au,Aw,Bt,Cw Bx,Cc,Az,Cd,Ar,q_kl,q_km,e0,e1,e2,e3,e4];rfl
  rw[eR,Bn,Eo];unfold rdS at ce;simp only[go_sem,seval,v76,v77,v98,v116,v120,wq7,wq8,Al,z3,z4,z5,Bd,Bb,Bc,Be,Bf,Av];refine Ac ce ?_;simp only[go_sem,seval,v76,v77,v98,v116,v120,wq7,wq8,Al,z3,z4,z5,Bd,Bb,Bc,Be,Bf,Av,q_h,q_i]
 refine Ao ?_;simp only[go_sem,seval,v76,v77,v98,v116,v120,wq7,wq8,Al,z3,z4,z5,Bd,Bb,Bc,Be,Bf,Av];refine Ac c5 ?_;simp only[go_sem,seval,v76,v77,v98,v116,v120,wq7,wq8,Al,z3,z4,z5,Bd,Bb,Bc,Be,Bf,Av];refine Ao ?_;have ce:=Cs (nm:=.dsl 1 R) (s:=⟨k6,b6,a6,D6⟩) (G:=G++D6) hc 2;have eR:Ai c T ns k [76,77,120,116,98,116] ⟨k0,false,a0,D0⟩=(.mk k (u0:Nat) (u1:Nat) 0 [u3,u4,u5],(Ad c ⟨k6,b6,a6,D6⟩ 2).2):=by simp only[Ai,As,Au,Aw,Bt,Cw Bx,Cc,Az,Cd,Ar,q_kl,q_km,e0,e1,e2,e3,e4,e5];rfl
 rw[eR,Bn,Eo];unfold rdS at ce;simp only[go_sem,seval,v76,v77,v98,v116,v120,wq7,wq8,Al,z3,z4,z5,Bd,Bb,Bc,Be,Bf,Av];refine Ac ce ?_;simp only[go_sem,seval,v76,v77,v98,v116,v120,wq7,wq8,Al,z3,z4,z5,Bd,Bb,Bc,Be,Bf,Av,q_h,q_i]
end
section
variable{c:RC}{T:TR}{f:Nat}{ns:List By}{k:Nat}{s:RS}{G:GV}
def Akn(hc:Dc c)(hT:TCG c T f)(Bk:ns.length+3*f+2<100000000000)(hk:k<=12)(hb:s.bad=false)(hN:NGr s.D)(hG:NGr G)(hs:c.L.length<s.k+f):LCG c T ns k [76,77,120,116,98,116,116] s G:=by
 obtain⟨k0,b0,a0,D0⟩:=s;simp only at hs hN hb;subst hb;have Ar:ofR k=1:=by unfold ofR;rw[if_pos hk]
 have Gg:(k:Int)<=12:=by omega
 have Bx:k≠23:=by omega
 have Al:((k:Int)==23)=false:=by rw[beq_eq_false_iff_ne];omega
 have c0:=Lu (nm:=nmG ns) (G:=G++D0) hc (c.L.length+1) ⟨k0,false,a0,D0⟩ (q_ja _) (by simp only;omega) (by omega);have d0:=(Lw (c:=c) (c.L.length+1) ⟨k0,false,a0,D0⟩).symm;have m0:=Ei (c:=c) (c.L.length+1) ⟨k0,false,a0,D0⟩;generalize e0:Af c (c.L.length+1) ⟨k0,false,a0,D0⟩=q at c0 d0 m0;obtain⟨u0,k1,b1,a1,E1⟩:=q;simp only at c0 d0 m0;subst d0;have c1:=Lu (nm:=nmG ns) (G:=G++D0) hc (c.L.length+1) ⟨k1,false,a1,D0⟩ (q_ja _) (by simp only;omega) (by omega);have d1:=(Lw (c:=c) (c.L.length+1) ⟨k1,false,a1,D0⟩).symm;have m1:=Ei (c:=c) (c.L.length+1) ⟨k1,false,a1,D0⟩;generalize e1:Af c (c.L.length+1) ⟨k1,false,a1,D0⟩=q at c1 d1 m1;obtain⟨u1,k2,b2,a2,E2⟩:=q;simp only at c1 d1 m1;subst d1;have c2:=Cs (nm:=nmG ns) (s:=⟨k2,false,a2,D0⟩) (G:=G++D0) hc 3;have d2:=(Bn (c:=c) (s:=⟨k2,false,a2,D0⟩) 3).symm;have m2:=Ce (c:=c) (s:=⟨k2,false,a2,D0⟩) 3;generalize e2:Ad c ⟨k2,false,a2,D0⟩ 3=q at c2 d2 m2;obtain⟨u2,k3,b3,a3,E3⟩:=q;simp only at c2 d2 m2;subst d2;have t3:=hT ns 1 ⟨k3,false,a3,D0⟩ G (by first|omega|(simp only;omega)) (by first|omega|(simp at Bk |-;omega)) (by decide) hN hG;generalize e3:T ns 1 ⟨k3,false,a3,D0⟩=q at t3;obtain⟨u3,k4,b4,a4,D4⟩:=q;obtain⟨c3,m3,N4⟩:=t3;simp only at c3 m3 N4;have z3:=Br u3;have t4:=hT (u2::ns) 1 ⟨k4,false,a4,D4⟩ G (by first|omega|(simp only;omega)) (by first|omega|(simp at Bk |-;omega)) (by decide) N4 hG;generalize e4:T (u2::ns) 1 ⟨k4,false,a4,D4⟩=q at t4;obtain⟨u4,k5,b5,a5,D5⟩:=q;obtain⟨c4,m4,N5⟩:=t4;simp only at c4 m4 N5;have z4:=Br u4;have t5:=hT ns 1 ⟨k5,false,a5,D5⟩ G (by first|omega|(simp only;omega)) (by first|omega|(simp at Bk |-;omega)) (by decide) N5 hG;generalize e5:T ns 1 ⟨k5,false,a5,D5⟩=q at t5;obtain⟨u5,k6,b6,a6,D6⟩:=q;obtain⟨c5,m5,N6⟩:=t5;simp only at c5 m5 N6;have z5:=Br u5;have t6:=hT ns 1 ⟨k6,false,a6,D6⟩ G (by first|omega|(simp only;omega)) (by first|omega|(simp at Bk |-;omega)) (by decide) N6 hG;generalize e6:T ns 1 ⟨k6,false,a6,D6⟩=q at t6;obtain⟨u6,k7,b7,a7,D7⟩:=q;obtain⟨c6,m6,N7⟩:=t6;simp only at c6 m6 N7;have z6:=Br u6;refine⟨?_,?_,?_⟩;rotate_left
 ·cases b1;rotate_left
  ·have eR:Ai c T ns k [76,77,120,116,98,116,116] ⟨k0,false,a0,D0⟩=(.mk k (u0:Nat) (0:Nat) 0 [],(Ad c ⟨k1,true,a1,D0⟩ 2).2):=by simp only[Ai,As,Au,Aw,Bt,Cw Bx,Cc,Az,Cd,Ar,q_kl,q_km,e0];rfl
   rw[eR];refine q_kn ?_ (Ce 2);first|omega|(simp only;omega)
  cases b2;rotate_left
  ·have eR:Ai c T ns k [76,77,120,116,98,116,116] ⟨k0,false,a0,D0⟩=(.mk k (u0:Nat) (u1:Nat) 0 [],(Ad c ⟨k2,true,a2,D0⟩ 2).2):=by simp only[Ai,As,Au,Aw,Bt,Cw Bx,Cc,Az,Cd,Ar,q_kl,q_km,e0,e1];rfl
   rw[eR];refine q_kn ?_ (Ce 2);first|omega|(simp only;omega)
  cases b3;rotate_left
  ·have eR:Ai c T ns k [76,77,120,116,98,116,116] ⟨k0,false,a0,D0⟩=(.mk k (u0:Nat) (u1:Nat) 0 [],(Ad c ⟨k3,true,a3,D0⟩ 2).2):=by simp only[Ai,As,Au,Aw,Bt,Cw Bx,Cc,Az,Cd,Ar,q_kl,q_km,e0,e1,e2];rfl
   rw[eR];refine q_kn ?_ (Ce 2);first|omega|(simp only;omega)
  cases b4;rotate_left
  ·have eR:Ai c T ns k [76,77,120,116,98,116,116] ⟨k0,false,a0,D0⟩=(.mk k (u0:Nat) (u1:Nat) 0 [u3],(Ad c ⟨k4,true,a4,D4⟩ 2).2):=by simp only[Ai,As,Au,Aw,Bt,Cw Bx,Cc,Az,Cd,Ar,q_kl,q_km,e0,e1,e2,e3];rfl
   rw[eR];refine q_kn ?_ (Ce 2);first|omega|(simp only;omega)
  cases b5;rotate_left
  ·have eR:Ai c T ns k [76,77,120,116,98,116,116] ⟨k0,false,a0,D0⟩=(.mk k (u0:Nat) (u1:Nat) 0 [u3,u4],(Ad c ⟨k5,true,a5,D5⟩ 2).2):=by simp only[Ai,As,Au,Aw,Bt,Cw Bx,Cc,Az,Cd,Ar,q_kl,q_km,e0,e1,e2,e3,e4];rfl
   rw[eR];refine q_kn ?_ (Ce 2);first|omega|(simp only;omega)
  cases b6;rotate_left
  ·have eR:Ai c T ns k [76,77,120,116,98,116,116] ⟨k0,false,a0,D0⟩=(.mk k (u0:Nat) (u1:Nat) 0 [u3,u4,u5],(Ad c ⟨k6,true,a6,D6⟩ 2).2):=by simp only[Ai,As,Au,Aw,Bt,Cw Bx,Cc,Az,Cd,Ar,q_kl,q_km,e0,e1,e2,e3,e4,e5];rfl
   rw[eR];refine q_kn ?_ (Ce 2);first|omega|(simp only;omega)
  have eR:Ai c T ns k [76,77,120,116,98,116,116] ⟨k0,false,a0,D0⟩=(.mk k (u0:Nat) (u1:Nat) 0 [u3,u4,u5,u6],(Ad c ⟨k7,b7,a7,D7⟩ 2).2):=by simp only[Ai,As,Au,Aw,Bt,Cw Bx,Cc,Az,Cd,Ar,q_kl,q_km,e0,e1,e2,e3,e4,e5,e6];rfl
  rw[eR];refine q_kn ?_ (Ce 2);first|omega|(simp only;omega)
 ·cases b1;rotate_left
  ·have eR:Ai c T ns k [76,77,120,116,98,116,116] ⟨k0,false,a0,D0⟩=(.mk k (u0:Nat) (0:Nat) 0 [],(Ad c ⟨k1,true,a1,D0⟩ 2).2):=by simp only[Ai,As,Au,Aw,Bt,Cw Bx,Cc,Az,Cd,Ar,q_kl,q_km,e0];rfl
   rw[eR];rw[Bn];exact hN
  cases b2;rotate_left
  ·have eR:Ai c T ns k [76,77,120,116,98,116,116] ⟨k0,false,a0,D0⟩=(.mk k (u0:Nat) (u1:Nat) 0 [],(Ad c ⟨k2,true,a2,D0⟩ 2).2):=by simp only[Ai,As,Au,Aw,Bt,Cw Bx,Cc,Az,Cd,Ar,q_kl,q_km,e0,e1];rfl
   rw[eR];rw[Bn];exact hN
  cases b3;rotate_left
  ·have eR:Ai c T ns k [76,77,120,116,98,116,116] ⟨k0,false,a0,D0⟩=(.mk k (u0:Nat) (u1:Nat) 0 [],(Ad c ⟨k3,true,a3,D0⟩ 2).2):=by simp only[Ai,As,Au,Aw,Bt,Cw Bx,Cc,Az,Cd,Ar,q_kl,q_km,e0,e1,e2];rfl
   rw[eR];rw[Bn];exact hN
  cases b4;rotate_left
  ·have eR:Ai c T ns k [76,77,120,116,98,116,116] ⟨k0,false,a0,D0⟩=(.mk k (u0:Nat) (u1:Nat) 0 [u3],(Ad c ⟨k4,true,a4,D4⟩ 2).2):=by simp only[Ai,As,Au,Aw,Bt,Cw Bx,Cc,Az,Cd,Ar,q_kl,q_km,e0,e1,e2,e3];rfl
   rw[eR];rw[Bn];exact N4
  cases b5;rotate_left
  ·have eR:Ai c T ns k [76,77,120,116,98,116,116] ⟨k0,false,a0,D0⟩=(.mk k (u0:Nat) (u1:Nat) 0 [u3,u4],(Ad c ⟨k5,true,a5,D5⟩ 2).2):=by simp only[Ai,As,Au,Aw,Bt,Cw Bx,Cc,Az,Cd,Ar,q_kl,q_km,e0,e1,e2,e3,e4];rfl
   rw[eR];rw[Bn];exact N5
  cases b6;rotate_left
  ·have eR:Ai c T ns k [76,77,120,116,98,116,116] ⟨k0,false,a0,D0⟩=(.mk k (u0:Nat) (u1:Nat) 0 [u3,u4,u5],(Ad c ⟨k6,true,a6,D6⟩ 2).2):=by simp only[Ai,As,Au,Aw,Bt,Cw Bx,Cc,Az,Cd,Ar,q_kl,q_km,e0,e1,e2,e3,e4,e5];rfl
   rw[eR];rw[Bn];exact N6
  have eR:Ai c T ns k [76,77,120,116,98,116,116] ⟨k0,false,a0,D0⟩=(.mk k (u0:Nat) (u1:Nat) 0 [u3,u4,u5,u6],(Ad c ⟨k7,b7,a7,D7⟩ 2).2):=by simp only[Ai,As,Au,Aw,Bt,Cw Bx,Cc,Az,Cd,Ar,q_kl,q_km,e0,e1,e2,e3,e4,e5,e6];rfl
  rw[eR];rw[Bn];exact N7
 refine Ib (r:=.agg true (tvn (Ai c T ns k [76,77,120,116,98,116,116] ⟨k0,false,a0,D0⟩).1)) ?_ (Jd _);have Mk:7<=140737488355328:=by decide
 have Bd:(ns.reverse.map wdG).length=ns.length:=by simp
 have Bb:ns.length*16<=140737488355328:=by omega
 have Bc:ns.length<=140737488355328:=by omega
 have Be:(ns.length+1)*16<=140737488355328:=by omega
 have Bf:ns.length<=140737488355327:=by omega
 rw[show nmG (u2::ns)=.dsl 1 (ns.reverse.map wdG++[[SV.str (bs u2)]]) by simp[nmG,wdG]] at c4;rw[show nmG ns=.dsl 1 (ns.reverse.map wdG) from rfl] at *
 generalize ns.reverse.map wdG=R at *
 have Av:List.take (ns.length+1) (R++[[SV.str (bs u2)]])=R++[[SV.str (bs u2)]]:=q_js (by simp;omega);refine Bq mixed Tryz.func190 tr190 ?_;unfold rdS at c0 c1 c2 c3 c4 c5 c6 |-;simp only[go_sem,seval,Gg];refine Dv 8 (Ao ?_);simp only[go_sem,seval,v76,v77,v98,v116,v120,wq7,wq8,Al,z3,z4,z5,z6,Bd,Bb,Bc,Be,Bf,Av];refine Ac c0 ?_;simp only[go_sem,seval,v76,v77,v98,v116,v120,wq7,wq8,Al,z3,z4,z5,z6,Bd,Bb,Bc,Be,Bf,Av];cases b1;rotate_left
 ·refine Ao ?_;have ce:=Cs (nm:=.dsl 1 R) (s:=⟨k1,true,a1,D0⟩) (G:=G++D0) hc 2;have eR:Ai c T ns k [76,77,120,116,98,116,116] ⟨k0,false,a0,D0⟩=(.mk k (u0:Nat) (0:Nat) 0 [],(Ad c ⟨k1,true,a1,D0⟩ 2).2):=by simp only[Ai,As,Au,Aw,Bt,Cw Bx,Cc,Az,Cd,Ar,q_kl,q_km,e0];rfl
  rw[eR,Bn,Ip];unfold rdS at ce;simp only[go_sem,seval,v76,v77,v98,v116,v120,wq7,wq8,Al,z3,z4,z5,z6,Bd,Bb,Bc,Be,Bf,Av];refine Ac ce ?_;simp only[go_sem,seval,v76,v77,v98,v116,v120,wq7,wq8,Al,z3,z4,z5,z6,Bd,Bb,Bc,Be,Bf,Av,q_h,q_i]
 refine Ao ?_;simp only[go_sem,seval,v76,v77,v98,v116,v120,wq7,wq8,Al,z3,z4,z5,z6,Bd,Bb,Bc,Be,Bf,Av];refine Ac c1 ?_;simp only[go_sem,seval,v76,v77,v98,v116,v120,wq7,wq8,Al,z3,z4,z5,z6,Bd,Bb,Bc,Be,Bf,Av];cases b2;rotate_left
 ·refine Ao ?_;have ce:=Cs (nm:=.dsl 1 R) (s:=⟨k2,true,a2,D0⟩) (G:=G++D0) hc 2;have eR:Ai c T ns k [76,77,120,116,98,116,116] ⟨k0,false,a0,D0⟩=(.mk k (u0:Nat) (u1:Nat) 0 [],(Ad c ⟨k2,true,a2,D0⟩ 2).2):=by simp only[Ai,As,Au,Aw,Bt,Cw Bx,Cc,Az,Cd,Ar,q_kl,q_km,e0,e1];rfl
  rw[eR,Bn,Ip];unfold rdS at ce;simp only[go_sem,seval,v76,v77,v98,v116,v120,wq7,wq8,Al,z3,z4,z5,z6,Bd,Bb,Bc,Be,Bf,Av];refine Ac ce ?_;simp only[go_sem,seval,v76,v77,v98,v116,v120,wq7,wq8,Al,z3,z4,z5,z6,Bd,Bb,Bc,Be,Bf,Av,q_h,q_i]
 refine Ao ?_;simp only[go_sem,seval,v76,v77,v98,v116,v120,wq7,wq8,Al,z3,z4,z5,z6,Bd,Bb,Bc,Be,Bf,Av];refine Ac c2 ?_;simp only[go_sem,seval,v76,v77,v98,v116,v120,wq7,wq8,Al,z3,z4,z5,z6,Bd,Bb,Bc,Be,Bf,Av];cases b3;rotate_left
 ·refine Ao ?_;have ce:=Cs (nm:=.dsl 1 R) (s:=⟨k3,true,a3,D0⟩) (G:=G++D0) hc 2;have eR:Ai c T ns k [76,77,120,116,98,116,116] ⟨k0,false,a0,D0⟩=(.mk k (u0:Nat) (u1:Nat) 0 [],(Ad c ⟨k3,true,a3,D0⟩ 2).2):=by simp only[Ai,As,Au,Aw,Bt,Cw Bx,Cc,Az,Cd,Ar,q_kl,q_km,e0,e1,e2];rfl
  rw[eR,Bn,Ip];unfold rdS at ce;simp only[go_sem,seval,v76,v77,v98,v116,v120,wq7,wq8,Al,z3,z4,z5,z6,Bd,Bb,Bc,Be,Bf,Av];refine Ac ce ?_;simp only[go_sem,seval,v76,v77,v98,v116,v120,wq7,wq8,Al,z3,z4,z5,z6,Bd,Bb,Bc,Be,Bf,Av,q_h,q_i]
 refine Ao ?_;simp only[go_sem,seval,v76,v77,v98,v116,v120,wq7,wq8,Al,z3,z4,z5,z6,Bd,Bb,Bc,Be,Bf,Av];refine Ac c3 ?_;simp only[go_sem,seval,v76,v77,v98,v116,v120,wq7,wq8,Al,z3,z4,z5,z6,Bd,Bb,Bc,Be,Bf,Av];cases b4;rotate_left
 ·refine Ao ?_;have ce:=Cs (nm:=.dsl 1 R) (s:=⟨k4,true,a4,D4⟩) (G:=G++D4) hc 2;have eR:Ai c T ns k [76,77,120,116,98,116,116] ⟨k0,false,a0,D0⟩=(.mk k (u0:Nat) (u1:Nat) 0 [u3],(Ad c ⟨k4,true,a4,D4⟩ 2).2):=by simp only[Ai,As,Au,Aw,Bt,Cw Bx,Cc,Az,Cd,Ar,q_kl,q_km,e0,e1,e2,e3];rfl
  rw[eR,Bn,Eo];unfold rdS at ce;simp only[go_sem,seval,v76,v77,v98,v116,v120,wq7,wq8,Al,z3,z4,z5,z6,Bd,Bb,Bc,Be,Bf,Av];refine Ac ce ?_;simp only[go_sem,seval,v76,v77,v98,v116,v120,wq7,wq8,Al,z3,z4,z5,z6,Bd,Bb,Bc,Be,Bf,Av,q_h,q_i]
 refine Ao ?_;simp only[go_sem,seval,v76,v77,v98,v116,v120,wq7,wq8,Al,z3,z4,z5,z6,Bd,Bb,Bc,Be,Bf,Av];refine Ac c4 ?_;simp only[go_sem,seval,v76,v77,v98,v116,v120,wq7,wq8,Al,z3,z4,z5,z6,Bd,Bb,Bc,Be,Bf,Av];cases b5;rotate_left
 ·refine Ao ?_;have ce:=Cs (nm:=.dsl 1 R) (s:=⟨k5,true,a5,D5⟩) (G:=G++D5) hc 2;have eR:Ai c T ns k [76,77,120,116,98,116,116] ⟨k0,false,a0,D0⟩=(.mk k (u0:Nat) (u1:Nat) 0 [u3,u4],(Ad c ⟨k5,true,a5,D5⟩ 2).2):=by simp only[Ai,As,Au,Aw,Bt,Cw Bx,Cc,Az,Cd,Ar,q_kl,q_km,e0,e1,e2,e3,e4];rfl
  rw[eR,Bn,Eo];unfold rdS at ce;simp only[go_sem,seval,v76,v77,v98,v116,v120,wq7,wq8,Al,z3,z4,z5,z6,Bd,Bb,Bc,Be,Bf,Av];refine Ac ce ?_;simp only[go_sem,seval,v76,v77,v98,v116,v120,wq7,wq8,Al,z3,z4,z5,z6,Bd,Bb,Bc,Be,Bf,Av,q_h,q_i]
 refine Ao ?_;simp only[go_sem,seval,v76,v77,v98,v116,v120,wq7,wq8,Al,z3,z4,z5,z6,Bd,Bb,Bc,Be,Bf,Av];refine Ac c5 ?_;simp only[go_sem,seval,v76,v77,v98,v116,v120,wq7,wq8,Al,z3,z4,z5,z6,Bd,Bb,Bc,Be,Bf,Av];cases b6;rotate_left
 ·refine Ao ?_;have ce:=Cs (nm:=.dsl 1 R) (s:=⟨k6,true,a6,D6⟩) (G:=G++D6) hc 2;have eR:Ai c T ns k [76,77,120,116,98,116,116] ⟨k0,false,a0,D0⟩=(.mk k (u0:Nat) (u1:Nat) 0 [u3,u4,u5],(Ad c ⟨k6,true,a6,D6⟩ 2).2):=by simp only[Ai,As,Au,Aw,Bt,Cw Bx,Cc,Az,Cd,Ar,q_kl,q_km,e0,e1,e2,e3,e4,e5];rfl
  rw[eR,Bn,Eo];unfold rdS at ce;simp only[go_sem,seval,v76,v77,v98,v116,v120,wq7,wq8,Al,z3,z4,z5,z6,Bd,Bb,Bc,Be,Bf,Av];refine Ac ce ?_;simp only[go_sem,seval,v76,v77,v98,v116,v120,wq7,wq8,Al,z3,z4,z5,z6,Bd,Bb,Bc,Be,Bf,Av,q_h,q_i]
 refine Ao ?_;simp only[go_sem,seval,v76,v77,v98,v116,v120,wq7,wq8,Al,z3,z4,z5,z6,Bd,Bb,Bc,Be,Bf,Av];refine Ac c6 ?_;simp only[go_sem,seval,v76,v77,v98,v116,v120,wq7,wq8,Al,z3,z4,z5,z6,Bd,Bb,Bc,Be,Bf,Av];refine Ao ?_;have ce:=Cs (nm:=.dsl 1 R) (s:=⟨k7,b7,a7,D7⟩) (G:=G++D7) hc 2;have eR:Ai c T ns k [76,77,120,116,98,116,116] ⟨k0,false,a0,D0⟩=(.mk k (u0:Nat) (u1:Nat) 0 [u3,u4,u5,u6],(Ad c ⟨k7,b7,a7,D7⟩ 2).2):=by simp only[Ai,As,Au,Aw,Bt,Cw Bx,Cc,Az,Cd,Ar,q_kl,q_km,e0,e1,e2,e3,e4,e5,e6];rfl
 rw[eR,Bn,Eo];unfold rdS at ce;simp only[go_sem,seval,v76,v77,v98,v116,v120,wq7,wq8,Al,z3,z4,z5,z6,Bd,Bb,Bc,Be,Bf,Av];refine Ac ce ?_;simp only[go_sem,seval,v76,v77,v98,v116,v120,wq7,wq8,Al,z3,z4,z5,z6,Bd,Bb,Bc,Be,Bf,Av,q_h,q_i]
def Axs(hc:Dc c)(hT:TCG c T f)(Bk:ns.length+3*f+2<100000000000)(hk:12<k/\k≠23)(hb:s.bad=false)(hN:NGr s.D)(hG:NGr G)(hs:c.L.length<s.k+f):LCG c T ns k [116,116,121,101,80,116,116,116] s G:=by
 obtain⟨k0,b0,a0,D0⟩:=s;simp only at hs hN hb;subst hb;have Ar:ofR k=2:=by unfold ofR;rw[if_neg (by omega)]
 have Gg:¬(k:Int)<=12:=by omega
 have Bx:k≠23:=hk.2;have Al:((k:Int)==23)=false:=by rw[beq_eq_false_iff_ne];omega
 have t0:=hT ns 2 ⟨k0,false,a0,D0⟩ G (by first|omega|(simp only;omega)) (by first|omega|(simp at Bk |-;omega)) (by decide) hN hG;generalize e0:T ns 2 ⟨k0,false,a0,D0⟩=q at t0;obtain⟨u0,k1,b1,a1,D1⟩:=q;obtain⟨c0,m0,N1⟩:=t0;simp only at c0 m0 N1;have z0:=Br u0;have t1:=hT ns 2 ⟨k1,false,a1,D1⟩ G (by first|omega|(simp only;omega)) (by first|omega|(simp at Bk |-;omega)) (by decide) N1 hG;generalize e1:T ns 2 ⟨k1,false,a1,D1⟩=q at t1;obtain⟨u1,k2,b2,a2,D2⟩:=q;obtain⟨c1,m1,N2⟩:=t1;simp only at c1 m1 N2;have z1:=Br u1;have c2:=Cs (nm:=nmG ns) (s:=⟨k2,false,a2,D2⟩) (G:=G++D2) hc 3;have d2:=(Bn (c:=c) (s:=⟨k2,false,a2,D2⟩) 3).symm;have m2:=Ce (c:=c) (s:=⟨k2,false,a2,D2⟩) 3;generalize e2:Ad c ⟨k2,false,a2,D2⟩ 3=q at c2 d2 m2;obtain⟨u2,k3,b3,a3,E3⟩:=q;simp only at c2 d2 m2;subst d2;have c3:=Cs (nm:=nmG ns) (s:=⟨k3,false,a3,D2⟩) (G:=G++D2) hc 3;have d3:=(Bn (c:=c) (s:=⟨k3,false,a3,D2⟩) 3).symm;have m3:=Ce (c:=c) (s:=⟨k3,false,a3,D2⟩) 3;generalize e3:Ad c ⟨k3,false,a3,D2⟩ 3=q at c3 d3 m3;obtain⟨u3,k4,b4,a4,E4⟩:=q;simp only at c3 d3 m3;subst d3;have t4:=hT (u3::u2::ns) 2 ⟨k4,false,a4,D2⟩ G (by first|omega|(simp only;omega)) (by first|omega|(simp at Bk |-;omega)) (by decide) N2 hG;generalize e4:T (u3::u2::ns) 2 ⟨k4,false,a4,D2⟩=q at t4;obtain⟨u4,k5,b5,a5,D5⟩:=q;obtain⟨c4,m4,N5⟩:=t4;simp only at c4 m4 N5;have z4:=Br u4;have t5:=hT ns 2 ⟨k5,false,a5,D5⟩ G (by first|omega|(simp only;omega)) (by first|omega|(simp at Bk |-;omega)) (by decide) N5 hG;generalize e5:T ns 2 ⟨k5,false,a5,D5⟩=q at t5;obtain⟨u5,k6,b6,a6,D6⟩:=q;obtain⟨c5,m5,N6⟩:=t5;simp only at c5 m5 N6;have z5:=Br u5;have t6:=hT ns 2 ⟨k6,false,a6,D6⟩ G (by first|omega|(simp only;omega)) (by first|omega|(simp at Bk |-;omega)) (by decide) N6 hG;generalize e6:T ns 2 ⟨k6,false,a6,D6⟩=q at t6;obtain⟨u6,k7,b7,a7,D7⟩:=q;obtain⟨c6,m6,N7⟩:=t6;simp only at c6 m6 N7;have z6:=Br u6;have t7:=hT ns 2 ⟨k7,false,a7,D7⟩ G (by first|omega|(simp only;omega)) (by first|omega|(simp at Bk |-;omega)) (by decide) N7 hG;generalize e7:T ns 2 ⟨k7,false,a7,D7⟩=q at t7;obtain⟨u7,k8,b8,a8,D8⟩:=q;obtain⟨c7,m7,N8⟩:=t7;simp only at c7 m7 N8;have z7:=Br u7;refine⟨?_,?_,?_⟩;rotate_left
 ·cases b1;rotate_left
  ·have eR:Ai c T ns k [116,116,121,101,80,116,116,116] ⟨k0,false,a0,D0⟩=(.mk k (0:Nat) (0:Nat) 0 [u0],(Ad c ⟨k1,true,a1,D1⟩ 2).2):=by simp only[Ai,As,Au,Aw,Hi,Hj,Az,Hk,Ar,q_kl,q_km,e0];rfl
   rw[eR];refine q_kn ?_ (Ce 2);first|omega|(simp only;omega)
  cases b2;rotate_left
  ·have eR:Ai c T ns k [116,116,121,101,80,116,116,116] ⟨k0,false,a0,D0⟩=(.mk k (0:Nat) (0:Nat) 0 [u0,u1],(Ad c ⟨k2,true,a2,D2⟩ 2).2):=by simp only[Ai,As,Au,Aw,Hi,Hj,Az,Hk,Ar,q_kl,q_km,e0,e1];rfl
   rw[eR];refine q_kn ?_ (Ce 2);first|omega|(simp only;omega)
  cases b3;rotate_left
  ·have eR:Ai c T ns k [116,116,121,101,80,116,116,116] ⟨k0,false,a0,D0⟩=(.mk k (0:Nat) (0:Nat) 0 [u0,u1],(Ad c ⟨k3,true,a3,D2⟩ 2).2):=by simp only[Ai,As,Au,Aw,Hi,Hj,Az,Hk,Ar,q_kl,q_km,e0,e1,e2];rfl
   rw[eR];refine q_kn ?_ (Ce 2);first|omega|(simp only;omega)
  cases b4;rotate_left
  ·have eR:Ai c T ns k [116,116,121,101,80,116,116,116] ⟨k0,false,a0,D0⟩=(.mk k (0:Nat) (0:Nat) 0 [u0,u1],(Ad c ⟨k4,true,a4,D2⟩ 2).2):=by simp only[Ai,As,Au,Aw,Hi,Hj,Az,Hk,Ar,q_kl,q_km,e0,e1,e2,e3];rfl
   rw[eR];refine q_kn ?_ (Ce 2);first|omega|(simp only;omega)
  cases b5;rotate_left
  ·have eR:Ai c T ns k [116,116,121,101,80,116,116,116] ⟨k0,false,a0,D0⟩=(.mk k (0:Nat) (0:Nat) 0 [u0,u1,u4],(Ad c ⟨k5,true,a5,D5⟩ 2).2):=by simp only[Ai,As,Au,Aw,Hi,Hj,Az,Hk,Ar,q_kl,q_km,e0,e1,e2,e3,e4];rfl
   rw[eR];refine q_kn ?_ (Ce 2);first|omega|(simp only;omega)
  cases b6;rotate_left
  ·have eR:Ai c T ns k [116,116,121,101,80,116,116,116] ⟨k0,false,a0,D0⟩=(.mk k (0:Nat) (0:Nat) 0 [u0,u1,u4,u5],(Ad c ⟨k6,true,a6,D6⟩ 2).2):=by simp only[Ai,As,Au,Aw,Hi,Hj,Az,Hk,Ar,q_kl,q_km,e0,e1,e2,e3,e4,e5];rfl
   rw[eR];refine q_kn ?_ (Ce 2);first|omega|(simp only;omega)
  cases b7;rotate_left
  ·have eR:Ai c T ns k [116,116,121,101,80,116,116,116] ⟨k0,false,a0,D0⟩=(.mk k (0:Nat) (0:Nat) 0 [u0,u1,u4,u5,u6],(Ad c ⟨k7,true,a7,D7⟩ 2).2):=by simp only[Ai,As,Au,Aw,Hi,Hj,Az,Hk,Ar,q_kl,q_km,e0,e1,e2,e3,e4,e5,e6];rfl
   rw[eR];refine q_kn ?_ (Ce 2);first|omega|(simp only;omega)
  have eR:Ai c T ns k [116,116,121,101,80,116,116,116] ⟨k0,false,a0,D0⟩=(.mk k (0:Nat) (0:Nat) 0 [u0,u1,u4,u5,u6,u7],(Ad c ⟨k8,b8,a8,D8⟩ 2).2):=by simp only[Ai,As,Au,Aw,Hi,Hj,Az,Hk,Ar,q_kl,q_km,e0,e1,e2,e3,e4,e5,e6,e7];rfl
  rw[eR];refine q_kn ?_ (Ce 2);first|omega|(simp only;omega)
 ·cases b1;rotate_left
  ·have eR:Ai c T ns k [116,116,121,101,80,116,116,116] ⟨k0,false,a0,D0⟩=(.mk k (0:Nat) (0:Nat) 0 [u0],(Ad c ⟨k1,true,a1,D1⟩ 2).2):=by simp only[Ai,As,Au,Aw,Hi,Hj,Az,Hk,Ar,q_kl,q_km,e0];rfl
   rw[eR];rw[Bn];exact N1
  cases b2;rotate_left
  ·have eR:Ai c T ns k [116,116,121,101,80,116,116,116] ⟨k0,false,a0,D0⟩=(.mk k (0:Nat) (0:Nat) 0 [u0,u1],(Ad c ⟨k2,true,a2,D2⟩ 2).2):=by simp only[Ai,As,Au,Aw,Hi,Hj,Az,Hk,Ar,q_kl,q_km,e0,e1];rfl
   rw[eR];rw[Bn];exact N2
  cases b3;rotate_left
  ·have eR:Ai c T ns k [116,116,121,101,80,116,116,116] ⟨k0,false,a0,D0⟩=(.mk k (0:Nat) (0:Nat) 0 [u0,u1],(Ad c ⟨k3,true,a3,D2⟩ 2).2):=by simp only[Ai,As,Au,Aw,Hi,Hj,Az,Hk,Ar,q_kl,q_km,e0,e1,e2];rfl
   rw[eR];rw[Bn];exact N2
  cases b4;rotate_left
  ·have eR:Ai c T ns k [116,116,121,101,80,116,116,116] ⟨k0,false,a0,D0⟩=(.mk k (0:Nat) (0:Nat) 0 [u0,u1],(Ad c ⟨k4,true,a4,D2⟩ 2).2):=by simp only[Ai,As,Au,Aw,Hi,Hj,Az,Hk,Ar,q_kl,q_km,e0,e1,e2,e3];rfl
   rw[eR];rw[Bn];exact N2
  cases b5;rotate_left
  ·have eR:Ai c T ns k [116,116,121,101,80,116,116,116] ⟨k0,false,a0,D0⟩=(.mk k (0:Nat) (0:Nat) 0 [u0,u1,u4],(Ad c ⟨k5,true,a5,D5⟩ 2).2):=by simp only[Ai,As,Au,Aw,Hi,Hj,Az,Hk,Ar,q_kl,q_km,e0,e1,e2,e3,e4];rfl
   rw[eR];rw[Bn];exact N5
  cases b6;rotate_left
  ·have eR:Ai c T ns k [116,116,121,101,80,116,116,116] ⟨k0,false,a0,D0⟩=(.mk k (0:Nat) (0:Nat) 0 [u0,u1,u4,u5],(Ad c ⟨k6,true,a6,D6⟩ 2).2):=by simp only[Ai,As,Au,Aw,Hi,Hj,Az,Hk,Ar,q_kl,q_km,e0,e1,e2,e3,e4,e5];rfl
   rw[eR];rw[Bn];exact N6
  cases b7;rotate_left
  ·have eR:Ai c T ns k [116,116,121,101,80,116,116,116] ⟨k0,false,a0,D0⟩=(.mk k (0:Nat) (0:Nat) 0 [u0,u1,u4,u5,u6],(Ad c ⟨k7,true,a7,D7⟩ 2).2):=by simp only[Ai,As,Au,Aw,Hi,Hj,Az,Hk,Ar,q_kl,q_km,e0,e1,e2,e3,e4,e5,e6];rfl
   rw[eR];rw[Bn];exact N7
  have eR:Ai c T ns k [116,116,121,101,80,116,116,116] ⟨k0,false,a0,D0⟩=(.mk k (0:Nat) (0:Nat) 0 [u0,u1,u4,u5,u6,u7],(Ad c ⟨k8,b8,a8,D8⟩ 2).2):=by simp only[Ai,As,Au,Aw,Hi,Hj,Az,Hk,Ar,q_kl,q_km,e0,e1,e2,e3,e4,e5,e6,e7];rfl
  rw[eR];rw[Bn];exact N8
 refine Ib (r:=.agg true (tvn (Ai c T ns k [116,116,121,101,80,116,116,116] ⟨k0,false,a0,D0⟩).1)) ?_ (Jd _);have Mk:8<=140737488355328:=by decide
 have Bd:(ns.reverse.map wdG).length=ns.length:=by simp
 have Bb:ns.length*16<=140737488355328:=by omega
 have Bc:ns.length<=140737488355328:=by omega
 have Be:(ns.length+2)*16<=140737488355328:=by omega
 have Bf:ns.length<=140737488355326:=by omega
 rw[show nmG (u3::u2::ns)=.dsl 1 (ns.reverse.map wdG++[[SV.str (bs u2)],[SV.str (bs u3)]]) by simp[nmG,wdG]] at c4;rw[show nmG ns=.dsl 1 (ns.reverse.map wdG) from rfl] at *
 generalize ns.reverse.map wdG=R at *
 have Av:List.take (ns.length+2) (R++[[SV.str (bs u2)],[SV.str (bs u3)]])=R++[[SV.str (bs u2)],[SV.str (bs u3)]]:=q_js (by simp;omega);refine Bq mixed Tryz.func190 tr190 ?_;unfold rdS at c0 c1 c2 c3 c4 c5 c6 c7 |-;simp only[go_sem,seval,Gg];refine Dv 9 (Ao ?_);simp only[go_sem,seval,v80,v101,v116,v121,wq7,wq8,Al,z0,z1,z4,z5,z6,z7,Bd,Bb,Bc,Be,Bf,Av];refine Ac c0 ?_;simp only[go_sem,seval,v80,v101,v116,v121,wq7,wq8,Al,z0,z1,z4,z5,z6,z7,Bd,Bb,Bc,Be,Bf,Av];cases b1;rotate_left
 ·refine Ao ?_;have ce:=Cs (nm:=.dsl 1 R) (s:=⟨k1,true,a1,D1⟩) (G:=G++D1) hc 2;have eR:Ai c T ns k [116,116,121,101,80,116,116,116] ⟨k0,false,a0,D0⟩=(.mk k (0:Nat) (0:Nat) 0 [u0],(Ad c ⟨k1,true,a1,D1⟩ 2).2):=by simp only[Ai,As,Au,Aw,Hi,Hj,Az,Hk,Ar,q_kl,q_km,e0];rfl
  rw[eR,Bn,Eo];unfold rdS at ce;simp only[go_sem,seval,v80,v101,v116,v121,wq7,wq8,Al,z0,z1,z4,z5,z6,z7,Bd,Bb,Bc,Be,Bf,Av];refine Ac ce ?_;simp only[go_sem,seval,v80,v101,v116,v121,wq7,wq8,Al,z0,z1,z4,z5,z6,z7,Bd,Bb,Bc,Be,Bf,Av,q_h,q_i]
 refine Ao ?_;simp only[go_sem,seval,v80,v101,v116,v121,wq7,wq8,Al,z0,z1,z4,z5,z6,z7,Bd,Bb,Bc,Be,Bf,Av];refine Ac c1 ?_;simp only[go_sem,seval,v80,v101,v116,v121,wq7,wq8,Al,z0,z1,z4,z5,z6,z7,Bd,Bb,Bc,Be,Bf,Av];cases b2;rotate_left
 ·refine Ao ?_;have ce:=Cs (nm:=.dsl 1 R) (s:=⟨k2,true,a2,D2⟩) (G:=G++D2) hc 2;have eR:Ai c T ns k [116,116,121,101,80,116,116,116] ⟨k0,false,a0,D0⟩=(.mk k (0:Nat) (0:Nat) 0 [u0,u1],(Ad c ⟨k2,true,a2,D2⟩ 2).2):=by simp only[Ai,As,Au,Aw,Hi,Hj,Az,Hk,Ar,q_kl,q_km,e0,e1];rfl
  rw[eR,Bn,Eo];unfold rdS at ce;simp only[go_sem,seval,v80,v101,v116,v121,wq7,wq8,Al,z0,z1,z4,z5,z6,z7,Bd,Bb,Bc,Be,Bf,Av];refine Ac ce ?_;simp only[go_sem,seval,v80,v101,v116,v121,wq7,wq8,Al,z0,z1,z4,z5,z6,z7,Bd,Bb,Bc,Be,Bf,Av,q_h,q_i]
 refine Ao ?_;simp only[go_sem,seval,v80,v101,v116,v121,wq7,wq8,Al,z0,z1,z4,z5,z6,z7,Bd,Bb,Bc,Be,Bf,Av];refine Ac c2 ?_;simp only[go_sem,seval,v80,v101,v116,v121,wq7,wq8,Al,z0,z1,z4,z5,z6,z7,Bd,Bb,Bc,Be,Bf,Av];cases b3;rotate_left
 ·refine Ao ?_;have ce:=Cs (nm:=.dsl 1 R) (s:=⟨k3,true,a3,D2⟩) (G:=G++D2) hc 2;have eR:Ai c T ns k [116,116,121,101,80,116,116,116] ⟨k0,false,a0,D0⟩=(.mk k (0:Nat) (0:Nat) 0 [u0,u1],(Ad c ⟨k3,true,a3,D2⟩ 2).2):=by simp only[Ai,As,Au,Aw,Hi,Hj,Az,Hk,Ar,q_kl,q_km,e0,e1,e2];rfl
  rw[eR,Bn,Eo];unfold rdS at ce;simp only[go_sem,seval,v80,v101,v116,v121,wq7,wq8,Al,z0,z1,z4,z5,z6,z7,Bd,Bb,Bc,Be,Bf,Av];refine Ac ce ?_;simp only[go_sem,seval,v80,v101,v116,v121,wq7,wq8,Al,z0,z1,z4,z5,z6,z7,Bd,Bb,Bc,Be,Bf,Av,q_h,q_i]
 refine Ao ?_;simp only[go_sem,seval,v80,v101,v116,v121,wq7,wq8,Al,z0,z1,z4,z5,z6,z7,Bd,Bb,Bc,Be,Bf,Av];refine Ac c3 ?_;simp only[go_sem,seval,v80,v101,v116,v121,wq7,wq8,Al,z0,z1,z4,z5,z6,z7,Bd,Bb,Bc,Be,Bf,Av];cases b4;rotate_left
 ·refine Ao ?_;have ce:=Cs (nm:=.dsl 1 R) (s:=⟨k4,true,a4,D2⟩) (G:=G++D2) hc 2;have eR:Ai c T ns k [116,116,121,101,80,116,116,116] ⟨k0,false,a0,D0⟩=(.mk k (0:Nat) (0:Nat) 0 [u0,u1],(Ad c ⟨k4,true,a4,D2⟩ 2).2):=by simp only[Ai,As,Au,Aw,Hi,Hj,Az,Hk,Ar,q_kl,q_km,e0,e1,e2,e3];rfl
  rw[eR,Bn,Eo];unfold rdS at ce;simp only[go_sem,seval,v80,v101,v116,v121,wq7,wq8,Al,z0,z1,z4,z5,z6,z7,Bd,Bb,Bc,Be,Bf,Av];refine Ac ce ?_;simp only[go_sem,seval,v80,v101,v116,v121,wq7,wq8,Al,z0,z1,z4,z5,z6,z7,Bd,Bb,Bc,Be,Bf,Av,q_h,q_i]
 refine Ao ?_;simp only[go_sem,seval,v80,v101,v116,v121,wq7,wq8,Al,z0,z1,z4,z5,z6,z7,Bd,Bb,Bc,Be,Bf,Av];refine Ac c4 ?_;simp only[go_sem,seval,v80,v101,v116,v121,wq7,wq8,Al,z0,z1,z4,z5,z6,z7,Bd,Bb,Bc,Be,Bf,Av];cases b5;rotate_left
 ·refine Ao ?_;have ce:=Cs (nm:=.dsl 1 R) (s:=⟨k5,true,a5,D5⟩) (G:=G++D5) hc 2;have eR:Ai c T ns k [116,116,121,101,80,116,116,116] ⟨k0,false,a0,D0⟩=(.mk k (0:Nat) (0:Nat) 0 [u0,u1,u4],(Ad c ⟨k5,true,a5,D5⟩ 2).2):=by simp only[Ai,As,Au,Aw,Hi,Hj,Az,Hk,Ar,q_kl,q_km,e0,e1,e2,e3,e4];rfl
  rw[eR,Bn,Eo];unfold rdS at ce;simp only[go_sem,seval,v80,v101,v116,v121,wq7,wq8,Al,z0,z1,z4,z5,z6,z7,Bd,Bb,Bc,Be,Bf,Av];refine Ac ce ?_;simp only[go_sem,seval,v80,v101,v116,v121,wq7,wq8,Al,z0,z1,z4,z5,z6,z7,Bd,Bb,Bc,Be,Bf,Av,q_h,q_i]
 refine Ao ?_;simp only[go_sem,seval,v80,v101,v116,v121,wq7,wq8,Al,z0,z1,z4,z5,z6,z7,Bd,Bb,Bc,Be,Bf,Av];refine Ac c5 ?_;simp only[go_sem,seval,v80,v101,v116,v121,wq7,wq8,Al,z0,z1,z4,z5,z6,z7,Bd,Bb,Bc,Be,Bf,Av];cases b6;rotate_left
 ·refine Ao ?_;have ce:=Cs (nm:=.dsl 1 R) (s:=⟨k6,true,a6,D6⟩) (G:=G++D6) hc 2;have eR:Ai c T ns k [116,116,121,101,80,116,116,116] ⟨k0,false,a0,D0⟩=(.mk k (0:Nat) (0:Nat) 0 [u0,u1,u4,u5],(Ad c ⟨k6,true,a6,D6⟩ 2).2):=by simp only[Ai,As,Au,Aw,Hi,Hj,Az,Hk,Ar,q_kl,q_km,e0,e1,e2,e3,e4,e5];rfl
  rw[eR,Bn,Eo];unfold rdS at ce;simp only[go_sem,seval,v80,v101,v116,v121,wq7,wq8,Al,z0,z1,z4,z5,z6,z7,Bd,Bb,Bc,Be,Bf,Av];refine Ac ce ?_;simp only[go_sem,seval,v80,v101,v116,v121,wq7,wq8,Al,z0,z1,z4,z5,z6,z7,Bd,Bb,Bc,Be,Bf,Av,q_h,q_i]
 refine Ao ?_;simp only[go_sem,seval,v80,v101,v116,v121,wq7,wq8,Al,z0,z1,z4,z5,z6,z7,Bd,Bb,Bc,Be,Bf,Av];refine Ac c6 ?_;simp only[go_sem,seval,v80,v101,v116,v121,wq7,wq8,Al,z0,z1,z4,z5,z6,z7,Bd,Bb,Bc,Be,Bf,Av];cases b7;rotate_left
 ·refine Ao ?_;have ce:=Cs (nm:=.dsl 1 R) (s:=⟨k7,true,a7,D7⟩) (G:=G++D7) hc 2;have eR:Ai c T ns k [116,116,121,101,80,116,116,116] ⟨k0,false,a0,D0⟩=(.mk k (0:Nat) (0:Nat) 0 [u0,u1,u4,u5,u6],(Ad c ⟨k7,true,a7,D7⟩ 2).2):=by simp only[Ai,As,Au,Aw,Hi,Hj,Az,Hk,Ar,q_kl,q_km,e0,e1,e2,e3,e4,e5,e6];rfl
  rw[eR,Bn,Eo];unfold rdS at ce;simp only[go_sem,seval,v80,v101,v116,v121,wq7,wq8,Al,z0,z1,z4,z5,z6,z7,Bd,Bb,Bc,Be,Bf,Av];refine Ac ce ?_;simp only[go_sem,seval,v80,v101,v116,v121,wq7,wq8,Al,z0,z1,z4,z5,z6,z7,Bd,Bb,Bc,Be,Bf,Av,q_h,q_i]
 refine Ao ?_;simp only[go_sem,seval,v80,v101,v116,v121,wq7,wq8,Al,z0,z1,z4,z5,z6,z7,Bd,Bb,Bc,Be,Bf,Av];refine Ac c7 ?_;simp only[go_sem,seval,v80,v101,v116,v121,wq7,wq8,Al,z0,z1,z4,z5,z6,z7,Bd,Bb,Bc,Be,Bf,Av];refine Ao ?_;have ce:=Cs (nm:=.dsl 1 R) (s:=⟨k8,b8,a8,D8⟩) (G:=G++D8) hc 2;have eR:Ai c T ns k [116,116,121,101,80,116,116,116] ⟨k0,false,a0,D0⟩=(.mk k (0:Nat) (0:Nat) 0 [u0,u1,u4,u5,u6,u7],(Ad c ⟨k8,b8,a8,D8⟩ 2).2):=by simp only[Ai,As,Au,Aw,Hi,Hj,Az,Hk,Ar,q_kl,q_km,e0,e1,e2,e3,e4,e5,e6,e7];rfl
 rw[eR,Bn,Eo];unfold rdS at ce;simp only[go_sem,seval,v80,v101,v116,v121,wq7,wq8,Al,z0,z1,z4,z5,z6,z7,Bd,Bb,Bc,Be,Bf,Av];refine Ac ce ?_;simp only[go_sem,seval,v80,v101,v116,v121,wq7,wq8,Al,z0,z1,z4,z5,z6,z7,Bd,Bb,Bc,Be,Bf,Av,q_h,q_i]
end
def rtLn{rs:List AR}{G':GV}{row:List SV}{s:St}:rtL rs G' row .normal s=Aba rs G' row s:=q_z
def Afr{C:CT}{b:AC}{Q:AE->St->Prop}{n:Nat}{s s':St}(h:Wk s s')(k:vcI C b Q n s'):vcI C b Q n s:=by
 cases n with
 |zero=>exact k
 |succ n=>
  obtain⟨s0,h1,h2⟩:=k;exact⟨s0,.trans h h1,h2⟩
def Pi(a b n:Int)(k:SV):List SV:=[.int .i64 23,.int .i64 a,.int .i64 b,.int .i64 n,k]
def Ae7{a c n:Int}{k:SV}(h:NoG k):∀x∈Pi a c n k,NoG x:=fun x hx=>by
 simp only[Pi,q_kb,q_kc,or_false] at hx;rcases hx with rfl|rfl|rfl|rfl|rfl
 ·exact .int _ _
 ·exact .int _ _
 ·exact .int _ _
 ·exact .int _ _
 ·exact h
def arG:∀n,n<21->Kp 23 ((n+1:Nat):Int)=((arN (n+1):Nat):Int)/\0<arN (n+1)/\arN (n+1)<=12:=by decide
def Nx(T:TR)(ns:List By):Nat->RS->RS
 |0,s=>s
 |x+1,s=>Nx T ns x (T ns 2 s).2
def Aky(T:TR)(ns:List By):∀(m:Nat) (s:RS),(Ec T ns m s).2=Nx T ns m s/\(Ec T ns m s).1.length=m/\∀x,x<m->(Ec T ns m s).1[x]?=some (T ns 2 (Nx T ns x s)).1:=by
 intro m
 induction m with
 |zero=>intro s;exact⟨rfl,rfl,fun x h=>by omega⟩
 |succ m ih=>
  intro s;obtain⟨h1,h2,h3⟩:=ih (T ns 2 s).2;refine⟨h1,by rw[Ec,q_jk,h2],fun x hx=>?_⟩;cases x with
  |zero=>rfl
  |succ x=>
   have:=h3 x (by omega);rw[Ec,List.getElem?_cons_succ,this];rfl
section
variable{c:RC}{T:TR}{f:Nat}{ns:List By}{G:GV}
def Al1(hT:TCG c T f)(Bk:ns.length+3*f<100000000000)(hG:NGr G):∀(x:Nat) (s:RS),c.L.length<s.k+f->NGr s.D->s.k<=(Nx T ns x s).k/\NGr (Nx T ns x s).D /\
  Cj 155 (rdS c (nmG ns) (Nx T ns x s)::(G++(Nx T ns x s).D)) [.gp 0 0,.int .i64 2] (.ret (.agg true (tv (T ns 2 (Nx T ns x s)).1))) (rdS c (nmG ns) (Nx T ns (x+1) s)::(G++(Nx T ns (x+1) s).D)):=by
 intro x
 induction x with
 |zero=>
  intro s hs hN;exact⟨q_ja _,hN,(hT ns 2 s G hs Bk (by decide) hN hG).1⟩
 |succ x ih=>
  intro s hs hN;obtain⟨h1,h2,h3⟩:=hT ns 2 s G hs Bk (by decide) hN hG;obtain⟨k1,k2,k3⟩:=ih (T ns 2 s).2 (by omega) h3;exact⟨q_kn h2 k1,k2,k3⟩
def Ao9{hp:List Ob}{a c n:Int}{x:Nat}{M:GV}{ob:Ob}(h:hp[3]?=some ob)(hb:ob.box=false)(hg:ob.gen=x)(hs:ob.sz=5)(hM:ob.els.take (x+1)=M) :
  Ek hp (.agg false [.int .i64 23,.int .i64 a,.int .i64 c,.int .i64 n,.osl 3 x 0 (x+1)])=some (.agg true [.int .i64 23,.int .i64 a,.int .i64 c,.int .i64 n,.dsl 5 M],fz hp 3 ob):=by
 simp[Ek,Js,El,h,hb,hg,hs,hM]
def Xz(c:RC)(nm:SV)(G:GV)(Q:Nat->RS)(M:GV)(m:Nat)(a b n:Int):Nat->St
 |0=>⟨(.gp 0 0::.ref 1 777 0 0::jk4 (jk2 (.int .i64 (m:Nat)::.int .i64 0::jk8 (jk4 (jk2 ([])))))),[gOb (rdS c nm (Q 0)::(G++(Q 0).D)),⟨true,5,[[.int .i64 23,.int .i64 a,.int .i64 b,.int .i64 n,.nils]],0,777,true⟩]⟩
 |x+1=>⟨(.gp 0 0::.ref 1 777 0 0::jk4 (jk2 (.int .i64 (m:Nat)::.int .i64 ((x+1:Nat):Int)::jk8 (jk4 (jk2 ([])))))),[gOb (rdS c nm (Q (x+1))::(G++(Q (x+1)).D)),⟨true,5,[[.int .i64 23,.int .i64 a,.int .i64 b,.int .i64 n,.osl 3 x 0 (x+1)]],0,777,false⟩,⟨false,5,[[.int .i64 0,.int .i64 0,.int .i64 0,.int .i64 0,.nils]],0,0,true⟩,⟨false,5,M.take (x+1),x,x,true⟩]⟩
def Avl(hT:TCG c T f)(Bk:ns.length+3*f<100000000000)(hG:NGr G){s:RS}(hs:c.L.length<s.k+f)(hD:s.D=[]){n:Nat}(hn:n<21)(a b:Int) :
  Cj 214 (rdS c (nmG ns) s::(G++[Pi a b ((n+1:Nat):Int) .nils])) [.gp 0 0,.gp (G.length+1) 0] (.ret (.tup []))
   (rdS c (nmG ns) (Ec T ns (arN (n+1)) s).2::(G++Pi a b ((n+1:Nat):Int) (.dsl 5 ((Ec T ns (arN (n+1)) s).1.map tv))::(Ec T ns (arN (n+1)) s).2.D)):=by
 obtain⟨hk,h0,h12⟩:=arG n hn;generalize ((n+1:Nat):Int)=N at *
 generalize arN (n+1)=m at *
 obtain⟨q1,q2,q3⟩:=Aky T ns m s;have hQ:=fun x=>Al1 (x:=x) hT Bk hG s hs (by rw[hD];exact .nil)
 rw[q1];have hQ0:Nx T ns 0 s=s:=rfl;generalize Nx T ns=Q' at hQ q3 hQ0 |-;obtain⟨Q,hQe⟩:∃Q:Nat->RS,Q=fun x=>Q' x s:=⟨_,rfl⟩
 have hQx:∀x,Q' x s=Q x:=fun x=>by rw[hQe]
 simp only[hQx] at hQ q3 hQ0 |-;generalize (Ec T ns m s).1=l at *
 refine Av8 mixed Tryz.func214 tr214 (NGr.cons Ak8 (hG.app (NGr.cons (Ae7 .nils) .nil))) (NGr.cons Ak8 (hG.app (hQ m).2.1)) (Ae7 (Ak6 l)) (by simp[Pi]) ?_;have hkk:=Agu 23 N;rw[hk] at hkk;have em:(l.map tv).length=m:=by simp[q2]
 have Gc:∀(x:Nat) (t:Tm),l[x]?=some t->(l.map tv).take x++[tv t]=(l.map tv).take (x+1):=fun x t ht=>by
  rw[List.take_add_one,q_ji,ht];rfl
 generalize hM:l.map tv=M at *
 unfold Amv Il Pi;simp only[go_sem,seval];refine Ag hkk ?_;simp only[go_sem,seval];refine Nz (Xz c (nmG ns) G Q M m a b N) m (fun x hx=>?_) ?_
 ·cases x with
  |zero=>
   have c0:=(hQ 0).2.2;have hq:=Gc 0 _ (q3 0 h0);have hz:=Br (T ns 2 (Q 0)).1;rw[List.take_zero,q_kl] at hq;generalize (T ns 2 (Q 0)).1=t at *
   unfold Xz;simp only[go_sem,seval,q_jn (show (0:Int)<(m:Int) by omega)];refine Ac c0 ?_;simp only[go_sem,seval,hz];rw[<-hq];exact⟨h0,Bv (by simp[Bm])⟩
  |succ x=>
   by_cases Am:x+1<m
   ·have c0:=(hQ (x+1)).2.2;have hq:=Gc (x+1) _ (q3 (x+1) Am);have hz:=Br (T ns 2 (Q (x+1))).1;generalize (T ns 2 (Q (x+1))).1=t at *
    have hw:IntKind.i64.wrap (((x+1:Nat):Int)+1)=((x+1+1:Nat):Int):=by rw[w64 (by unfold fit;omega)];omega
    unfold Xz;simp only[go_sem,seval,q_jn (show ((x+1:Nat):Int)<(m:Int) by omega)];refine Ac c0 ?_;have Gh:(M.take (x+1)).length=x+1:=by rw[q_kf];omega
    have hset:∀u v:List SV,(M.take (x+1)++[u]).set (x+1) v=M.take (x+1)++[v]:=fun u v=>by
     rw[List.set_append_right _ _ (by omega),Gh,Nat.sub_self,List.set_cons_zero]
    simp only[go_sem,seval,hz,hw,Gh,hset,hq];refine⟨⟨by omega,by omega⟩,⟨by omega,by omega⟩,by omega,Am,?_⟩;exact Fx 4 (by simp[Bm]) (by simp) (by simp[Dm]) (by simp[gOb,Dm])
   ·have:m=x+1:=by omega
    subst this;unfold Xz;simp only[go_sem,seval,q_je (show ¬((x+1:Nat):Int)<((x+1:Nat):Int) by omega),rtLn];have hMt:M.take (x+1)=M:=q_js (by omega);rw[hMt];exact⟨trivial,rfl,[.int .i64 23,.int .i64 a,.int .i64 b,.int .i64 N,.osl 3 x 0 (x+1)],false,fz _ 3 _,rfl,by simp,Ao9 rfl rfl rfl rfl hMt,by simp[fz]⟩
 ·unfold Xz;rw[hQ0,hD,q_k];exact Bv (by simp[Bm])
end
end Go.Proofs.YtgfehkhcmnfpaaaGreatDoor.Abs
