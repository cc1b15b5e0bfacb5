import Derived.Test.YtdpigpopcbjkmaaGreatDoorWTh
import Derived.Test.YtdpigpopcbjkmaaGreatDoorWEv
import Derived.Test.YtdpigpopcbjkmaaGreatDoorProg
import Derived.KernelRfl
import Derived.Test.YtdpigpopcbjkmaaGreatDoorWTe
set_option linter.unusedSimpArgs false
set_option linter.unusedVariables false
set_option maxRecDepth 20000
set_option maxHeartbeats 4000000
namespace Go.Proofs.YtdpigpopcbjkmaaGreatDoor.Abs
open Go Go.RowKit Go.Proofs.YtdpigpopcbjkmaaGreatDoor
theorem u76:((UInt8.toNat 76:Nat):Int)=76:=rfl
theorem u77:((UInt8.toNat 77:Nat):Int)=77:=rfl
theorem u83:((UInt8.toNat 83:Nat):Int)=83:=rfl
theorem u116:((UInt8.toNat 116:Nat):Int)=116:=rfl
theorem u98:((UInt8.toNat 98:Nat):Int)=98:=rfl
theorem u80:((UInt8.toNat 80:Nat):Int)=80:=rfl
theorem u120:((UInt8.toNat 120:Nat):Int)=120:=rfl
theorem u121:((UInt8.toNat 121:Nat):Int)=121:=rfl
theorem u101:((UInt8.toNat 101:Nat):Int)=101:=rfl
theorem wr7:IntKind.i64.wrap 7=7:=rfl
theorem wr8:IntKind.i64.wrap 8=8:=rfl
section
variable {T:TF} {b:Nat} {ns:List By} {k k0 e i j:Nat} {L ts r:List Tok} {nm:SV} {G:List (List SV)} {lt:LT}
theorem lc_t (hT:TC T b) (Dr:ns.length+2+b<1000000) (hL:L.length<1000000000000) (hi:i<1000) (hj:j<1000) (hnm:NmP nm ns) (hG:NG G) (hk:12<k) (hd:L.drop k0=ts) (h:Er T ns k [116] {} ts=some (lt,r)):LC k [116] L k0 e i j nm G lt r:=by
 obtain⟨y0,r0,h0,h⟩:=Bn h
 obtain⟨a0,t0,rfl⟩:=Di h0
 obtain⟨z,r',rfl,hz,Ab⟩:=Gw h
 cases Ab
 obtain⟨q0,D0,d0,g0,c0⟩:=hT ns _ _ a0 t0 (by omega) L _ e i j nm (G) 2 hL hi hj (.inr rfl) hnm hG hd
 have z0:=Ag (a0.tm i j)
 have ce:=Ii (e:=e) (i:=i) (j:=j) (nm:=nm) (G:=(G++D0)) d0 hL
 rw [hz] at ce
 refine⟨_,D0,Ar d0,g0,?_⟩
 have eT:LT.tm i j (.nd k .z .z 0 [a0])=.mk k 0 0 0 [a0.tm i j]:=by simp [LT.tm,LT.tms,LE.ev]
 change Ad _ _ _ (.ret (.agg true (tv (LT.tm i j (.nd k .z .z 0 [a0]))))) _
 rw [eT,Am]
 simp only [q_h,q_i]
 have No:¬(k:Int)≤12:=by omega
 have Ay:1≤140737488355328:=by decide
 unfold rdR at c0 ce ⊢
 refine Aq mixed Tryz.func152 tr152 ?_
 simp only [go_sem,seval,No]
 refine Cf 2 (Ak ?_)
 simp only [go_sem,seval,u116,wr7,wr8,z0]
 refine Ac c0 ?_
 simp only [go_sem,seval,u116,wr7,wr8,z0]
 refine Ak ?_
 simp only [go_sem,seval,u116,wr7,wr8,z0]
 refine Ac ce ?_
 simp only [go_sem,seval,u116,wr7,wr8,z0,List.append_assoc]
theorem Ah7 (hT:TC T b) (Dr:ns.length+2+b<1000000) (hL:L.length<1000000000000) (hi:i<1000) (hj:j<1000) (hnm:NmP nm ns) (hG:NG G) (hk:12<k) (hd:L.drop k0=ts) (h:Er T ns k [116,116] {} ts=some (lt,r)):LC k [116,116] L k0 e i j nm G lt r:=by
 obtain⟨y0,r0,h0,h⟩:=Bn h
 obtain⟨a0,t0,rfl⟩:=Di h0
 obtain⟨y1,r1,h1,h⟩:=Bn h
 obtain⟨a1,t1,rfl⟩:=Di h1
 obtain⟨z,r',rfl,hz,Ab⟩:=Gw h
 cases Ab
 obtain⟨q0,D0,d0,g0,c0⟩:=hT ns _ _ a0 t0 (by omega) L _ e i j nm (G) 2 hL hi hj (.inr rfl) hnm hG hd
 have z0:=Ag (a0.tm i j)
 obtain⟨q1,D1,d1,g1,c1⟩:=hT ns _ _ a1 t1 (by omega) L _ e i j nm ((G++D0)) 2 hL hi hj (.inr rfl) hnm (hG.app g0) d0
 have z1:=Ag (a1.tm i j)
 have ce:=Ii (e:=e) (i:=i) (j:=j) (nm:=nm) (G:=((G++D0)++D1)) d1 hL
 rw [hz] at ce
 refine⟨_,D0++(D1),Ar d1,g0.app (g1),?_⟩
 have eT:LT.tm i j (.nd k .z .z 0 [a0,a1])=.mk k 0 0 0 [a0.tm i j,a1.tm i j]:=by simp [LT.tm,LT.tms,LE.ev]
 change Ad _ _ _ (.ret (.agg true (tv (LT.tm i j (.nd k .z .z 0 [a0,a1]))))) _
 rw [eT,Am]
 simp only [q_h,q_i]
 have No:¬(k:Int)≤12:=by omega
 have Ay:2≤140737488355328:=by decide
 unfold rdR at c0 c1 ce ⊢
 refine Aq mixed Tryz.func152 tr152 ?_
 simp only [go_sem,seval,No]
 refine Cf 3 (Ak ?_)
 simp only [go_sem,seval,u116,wr7,wr8,z0,z1]
 refine Ac c0 ?_
 simp only [go_sem,seval,u116,wr7,wr8,z0,z1]
 refine Ak ?_
 simp only [go_sem,seval,u116,wr7,wr8,z0,z1]
 refine Ac c1 ?_
 simp only [go_sem,seval,u116,wr7,wr8,z0,z1]
 refine Ak ?_
 simp only [go_sem,seval,u116,wr7,wr8,z0,z1]
 refine Ac ce ?_
 simp only [go_sem,seval,u116,wr7,wr8,z0,z1,List.append_assoc]
theorem Av9 (hT:TC T b) (Dr:ns.length+2+b<1000000) (hL:L.length<1000000000000) (hi:i<1000) (hj:j<1000) (hnm:NmP nm ns) (hG:NG G) (hk:12<k) (hd:L.drop k0=ts) (h:Er T ns k [116,116,116] {} ts=some (lt,r)):LC k [116,116,116] L k0 e i j nm G lt r:=by
 obtain⟨y0,r0,h0,h⟩:=Bn h
 obtain⟨a0,t0,rfl⟩:=Di h0
 obtain⟨y1,r1,h1,h⟩:=Bn h
 obtain⟨a1,t1,rfl⟩:=Di h1
 obtain⟨y2,r2,h2,h⟩:=Bn h
 obtain⟨a2,t2,rfl⟩:=Di h2
 obtain⟨z,r',rfl,hz,Ab⟩:=Gw h
 cases Ab
 obtain⟨q0,D0,d0,g0,c0⟩:=hT ns _ _ a0 t0 (by omega) L _ e i j nm (G) 2 hL hi hj (.inr rfl) hnm hG hd
 have z0:=Ag (a0.tm i j)
 obtain⟨q1,D1,d1,g1,c1⟩:=hT ns _ _ a1 t1 (by omega) L _ e i j nm ((G++D0)) 2 hL hi hj (.inr rfl) hnm (hG.app g0) d0
 have z1:=Ag (a1.tm i j)
 obtain⟨q2,D2,d2,g2,c2⟩:=hT ns _ _ a2 t2 (by omega) L _ e i j nm (((G++D0)++D1)) 2 hL hi hj (.inr rfl) hnm ((hG.app g0).app g1) d1
 have z2:=Ag (a2.tm i j)
 have ce:=Ii (e:=e) (i:=i) (j:=j) (nm:=nm) (G:=(((G++D0)++D1)++D2)) d2 hL
 rw [hz] at ce
 refine⟨_,D0++(D1++(D2)),Ar d2,g0.app (g1.app (g2)),?_⟩
 have eT:LT.tm i j (.nd k .z .z 0 [a0,a1,a2])=.mk k 0 0 0 [a0.tm i j,a1.tm i j,a2.tm i j]:=by simp [LT.tm,LT.tms,LE.ev]
 change Ad _ _ _ (.ret (.agg true (tv (LT.tm i j (.nd k .z .z 0 [a0,a1,a2]))))) _
 rw [eT,Am]
 simp only [q_h,q_i]
 have No:¬(k:Int)≤12:=by omega
 have Ay:3≤140737488355328:=by decide
 unfold rdR at c0 c1 c2 ce ⊢
 refine Aq mixed Tryz.func152 tr152 ?_
 simp only [go_sem,seval,No]
 refine Cf 4 (Ak ?_)
 simp only [go_sem,seval,u116,wr7,wr8,z0,z1,z2]
 refine Ac c0 ?_
 simp only [go_sem,seval,u116,wr7,wr8,z0,z1,z2]
 refine Ak ?_
 simp only [go_sem,seval,u116,wr7,wr8,z0,z1,z2]
 refine Ac c1 ?_
 simp only [go_sem,seval,u116,wr7,wr8,z0,z1,z2]
 refine Ak ?_
 simp only [go_sem,seval,u116,wr7,wr8,z0,z1,z2]
 refine Ac c2 ?_
 simp only [go_sem,seval,u116,wr7,wr8,z0,z1,z2]
 refine Ak ?_
 simp only [go_sem,seval,u116,wr7,wr8,z0,z1,z2]
 refine Ac ce ?_
 simp only [go_sem,seval,u116,wr7,wr8,z0,z1,z2,List.append_assoc]
theorem Acv (hT:TC T b) (Dr:ns.length+2+b<1000000) (hL:L.length<1000000000000) (hi:i<1000) (hj:j<1000) (hnm:NmP nm ns) (hG:NG G) (hk:12<k) (hd:L.drop k0=ts) (h:Er T ns k [120,116,98] {} ts=some (lt,r)):LC k [120,116,98] L k0 e i j nm G lt r:=by
 obtain⟨y0,r0,h0,h⟩:=Bn h
 obtain⟨w0,rfl,k0,rfl⟩:=Nq h0 (by simp)
 obtain⟨y1,r1,h1,h⟩:=Bn h
 obtain⟨a1,t1,rfl⟩:=Di h1
 obtain⟨y2,r2,h2,h⟩:=Bn h
 obtain⟨n2,a2,t2,rfl⟩:=Qm h2 (by simp)
 obtain⟨z,r',rfl,hz,Ab⟩:=Gw h
 cases Ab
 have c0:=Ii (e:=e) (i:=i) (j:=j) (nm:=nm) (G:=G) hd hL
 rw [k0] at c0
 obtain⟨q1,D1,d1,g1,c1⟩:=hT ns _ _ a1 t1 (by omega) L _ e i j nm (G) 2 hL hi hj (.inr rfl) hnm hG (Ar hd)
 have z1:=Ag (a1.tm i j)
 obtain⟨q2,D2,d2,g2,c2⟩:=hT ([w0.w]++ns) _ _ a2 t2 (by simp;omega) L _ e i j (nmV ([w0.w]++ns)) ((G++D1)) 2 hL hi hj (.inr rfl) (.inr rfl) (hG.app g1) d1
 have z2:=Ag (a2.tm i j)
 have ce:=Ii (e:=e) (i:=i) (j:=j) (nm:=nm) (G:=((G++D1)++D2)) d2 hL
 rw [hz] at ce
 refine⟨_,D1++(D2),Ar d2,g1.app (g2),?_⟩
 have eT:LT.tm i j (.nd k .z .z 0 [a1,a2])=.mk k 0 0 0 [a1.tm i j,a2.tm i j]:=by simp [LT.tm,LT.tms,LE.ev]
 change Ad _ _ _ (.ret (.agg true (tv (LT.tm i j (.nd k .z .z 0 [a1,a2]))))) _
 rw [eT,Am]
 simp only [q_h,q_i]
 have No:¬(k:Int)≤12:=by omega
 have Ay:3≤140737488355328:=by decide
 have Zv:nm=nmV ns:=hnm.resolve_left (fun h=>n2 h.2)
 subst Zv
 have Cp:(ns.reverse.map wdR).length=ns.length:=by simp
 have Cj:¬ns.length=0:=fun e=>n2 (List.length_eq_zero_iff.1 e)
 have Bi:ns.length*16≤140737488355328:=by omega
 have Cs:ns.length≤140737488355328:=by omega
 have Cq:(ns.length+1)*16≤140737488355328:=by omega
 have Cu:ns.length≤140737488355327:=by omega
 have Zw:nmV ([w0.w]++ns)=.dsl 1 (ns.reverse.map wdR++[wdR w0.w]):=by simp [nmV]
 rw [Zw] at c2
 unfold nmV at *
 generalize ns.reverse.map wdR=R at *
 have Cl:List.take (ns.length+1) (R++[[SV.str (bs w0.w)]])=R++[[SV.str (bs w0.w)]]:=List.take_of_length_le (by simp;omega)
 unfold rdR at c0 c1 c2 ce ⊢
 refine Aq mixed Tryz.func152 tr152 ?_
 simp only [go_sem,seval,No]
 refine Cf 4 (Ak ?_)
 simp only [go_sem,seval,u98,u116,u120,wr7,wr8,z1,z2,Cp,wdR,Cj,Bi,Cs,Cq,Cu,Cl]
 refine Ac c0 ?_
 simp only [go_sem,seval,u98,u116,u120,wr7,wr8,z1,z2,Cp,wdR,Cj,Bi,Cs,Cq,Cu,Cl]
 refine Ak ?_
 simp only [go_sem,seval,u98,u116,u120,wr7,wr8,z1,z2,Cp,wdR,Cj,Bi,Cs,Cq,Cu,Cl]
 refine Ac c1 ?_
 simp only [go_sem,seval,u98,u116,u120,wr7,wr8,z1,z2,Cp,wdR,Cj,Bi,Cs,Cq,Cu,Cl]
 refine Ak ?_
 simp only [go_sem,seval,u98,u116,u120,wr7,wr8,z1,z2,Cp,wdR,Cj,Bi,Cs,Cq,Cu,Cl]
 refine Ac c2 ?_
 simp only [go_sem,seval,u98,u116,u120,wr7,wr8,z1,z2,Cp,wdR,Cj,Bi,Cs,Cq,Cu,Cl]
 refine Ak ?_
 simp only [go_sem,seval,u98,u116,u120,wr7,wr8,z1,z2,Cp,wdR,Cj,Bi,Cs,Cq,Cu,Cl]
 refine Ac ce ?_
 simp only [go_sem,seval,u98,u116,u120,wr7,wr8,z1,z2,Cp,wdR,Cj,Bi,Cs,Cq,Cu,Cl,List.append_assoc]
theorem Av6 (hT:TC T b) (Dr:ns.length+2+b<1000000) (hL:L.length<1000000000000) (hi:i<1000) (hj:j<1000) (hnm:NmP nm ns) (hG:NG G) (hk:12<k) (hd:L.drop k0=ts) (h:Er T ns k [120,116,98,116,116] {} ts=some (lt,r)):LC k [120,116,98,116,116] L k0 e i j nm G lt r:=by
 obtain⟨y0,r0,h0,h⟩:=Bn h
 obtain⟨w0,rfl,k0,rfl⟩:=Nq h0 (by simp)
 obtain⟨y1,r1,h1,h⟩:=Bn h
 obtain⟨a1,t1,rfl⟩:=Di h1
 obtain⟨y2,r2,h2,h⟩:=Bn h
 obtain⟨n2,a2,t2,rfl⟩:=Qm h2 (by simp)
 obtain⟨y3,r3,h3,h⟩:=Bn h
 obtain⟨a3,t3,rfl⟩:=Di h3
 obtain⟨y4,r4,h4,h⟩:=Bn h
 obtain⟨a4,t4,rfl⟩:=Di h4
 obtain⟨z,r',rfl,hz,Ab⟩:=Gw h
 cases Ab
 have c0:=Ii (e:=e) (i:=i) (j:=j) (nm:=nm) (G:=G) hd hL
 rw [k0] at c0
 obtain⟨q1,D1,d1,g1,c1⟩:=hT ns _ _ a1 t1 (by omega) L _ e i j nm (G) 2 hL hi hj (.inr rfl) hnm hG (Ar hd)
 have z1:=Ag (a1.tm i j)
 obtain⟨q2,D2,d2,g2,c2⟩:=hT ([w0.w]++ns) _ _ a2 t2 (by simp;omega) L _ e i j (nmV ([w0.w]++ns)) ((G++D1)) 2 hL hi hj (.inr rfl) (.inr rfl) (hG.app g1) d1
 have z2:=Ag (a2.tm i j)
 obtain⟨q3,D3,d3,g3,c3⟩:=hT ns _ _ a3 t3 (by omega) L _ e i j nm (((G++D1)++D2)) 2 hL hi hj (.inr rfl) hnm ((hG.app g1).app g2) d2
 have z3:=Ag (a3.tm i j)
 obtain⟨q4,D4,d4,g4,c4⟩:=hT ns _ _ a4 t4 (by omega) L _ e i j nm ((((G++D1)++D2)++D3)) 2 hL hi hj (.inr rfl) hnm (((hG.app g1).app g2).app g3) d3
 have z4:=Ag (a4.tm i j)
 have ce:=Ii (e:=e) (i:=i) (j:=j) (nm:=nm) (G:=((((G++D1)++D2)++D3)++D4)) d4 hL
 rw [hz] at ce
 refine⟨_,D1++(D2++(D3++(D4))),Ar d4,g1.app (g2.app (g3.app (g4))),?_⟩
 have eT:LT.tm i j (.nd k .z .z 0 [a1,a2,a3,a4])=.mk k 0 0 0 [a1.tm i j,a2.tm i j,a3.tm i j,a4.tm i j]:=by simp [LT.tm,LT.tms,LE.ev]
 change Ad _ _ _ (.ret (.agg true (tv (LT.tm i j (.nd k .z .z 0 [a1,a2,a3,a4]))))) _
 rw [eT,Am]
 simp only [q_h,q_i]
 have No:¬(k:Int)≤12:=by omega
 have Ay:5≤140737488355328:=by decide
 have Zv:nm=nmV ns:=hnm.resolve_left (fun h=>n2 h.2)
 subst Zv
 have Cp:(ns.reverse.map wdR).length=ns.length:=by simp
 have Cj:¬ns.length=0:=fun e=>n2 (List.length_eq_zero_iff.1 e)
 have Bi:ns.length*16≤140737488355328:=by omega
 have Cs:ns.length≤140737488355328:=by omega
 have Cq:(ns.length+1)*16≤140737488355328:=by omega
 have Cu:ns.length≤140737488355327:=by omega
 have Zw:nmV ([w0.w]++ns)=.dsl 1 (ns.reverse.map wdR++[wdR w0.w]):=by simp [nmV]
 rw [Zw] at c2
 unfold nmV at *
 generalize ns.reverse.map wdR=R at *
 have Cl:List.take (ns.length+1) (R++[[SV.str (bs w0.w)]])=R++[[SV.str (bs w0.w)]]:=List.take_of_length_le (by simp;omega)
 unfold rdR at c0 c1 c2 c3 c4 ce ⊢
 refine Aq mixed Tryz.func152 tr152 ?_
 simp only [go_sem,seval,No]
 refine Cf 6 (Ak ?_)
 simp only [go_sem,seval,u98,u116,u120,wr7,wr8,z1,z2,z3,z4,Cp,wdR,Cj,Bi,Cs,Cq,Cu,Cl]
 refine Ac c0 ?_
 simp only [go_sem,seval,u98,u116,u120,wr7,wr8,z1,z2,z3,z4,Cp,wdR,Cj,Bi,Cs,Cq,Cu,Cl]
 refine Ak ?_
 simp only [go_sem,seval,u98,u116,u120,wr7,wr8,z1,z2,z3,z4,Cp,wdR,Cj,Bi,Cs,Cq,Cu,Cl]
 refine Ac c1 ?_
 simp only [go_sem,seval,u98,u116,u120,wr7,wr8,z1,z2,z3,z4,Cp,wdR,Cj,Bi,Cs,Cq,Cu,Cl]
 refine Ak ?_
 simp only [go_sem,seval,u98,u116,u120,wr7,wr8,z1,z2,z3,z4,Cp,wdR,Cj,Bi,Cs,Cq,Cu,Cl]
 refine Ac c2 ?_
 simp only [go_sem,seval,u98,u116,u120,wr7,wr8,z1,z2,z3,z4,Cp,wdR,Cj,Bi,Cs,Cq,Cu,Cl]
 refine Ak ?_
 simp only [go_sem,seval,u98,u116,u120,wr7,wr8,z1,z2,z3,z4,Cp,wdR,Cj,Bi,Cs,Cq,Cu,Cl]
 refine Ac c3 ?_
 simp only [go_sem,seval,u98,u116,u120,wr7,wr8,z1,z2,z3,z4,Cp,wdR,Cj,Bi,Cs,Cq,Cu,Cl]
 refine Ak ?_
 simp only [go_sem,seval,u98,u116,u120,wr7,wr8,z1,z2,z3,z4,Cp,wdR,Cj,Bi,Cs,Cq,Cu,Cl]
 refine Ac c4 ?_
 simp only [go_sem,seval,u98,u116,u120,wr7,wr8,z1,z2,z3,z4,Cp,wdR,Cj,Bi,Cs,Cq,Cu,Cl]
 refine Ak ?_
 simp only [go_sem,seval,u98,u116,u120,wr7,wr8,z1,z2,z3,z4,Cp,wdR,Cj,Bi,Cs,Cq,Cu,Cl]
 refine Ac ce ?_
 simp only [go_sem,seval,u98,u116,u120,wr7,wr8,z1,z2,z3,z4,Cp,wdR,Cj,Bi,Cs,Cq,Cu,Cl,List.append_assoc]
theorem lc_j (hT:TC T b) (Dr:ns.length+2+b<1000000) (hL:L.length<1000000000000) (hi:i<1000) (hj:j<1000) (hnm:NmP nm ns) (hG:NG G) (hk:12<k) (hd:L.drop k0=ts) (h:Er T ns k [116,116,121,101,80,116,116,116] {} ts=some (lt,r)):LC k [116,116,121,101,80,116,116,116] L k0 e i j nm G lt r:=by
 obtain⟨y0,r0,h0,h⟩:=Bn h
 obtain⟨a0,t0,rfl⟩:=Di h0
 obtain⟨y1,r1,h1,h⟩:=Bn h
 obtain⟨a1,t1,rfl⟩:=Di h1
 obtain⟨y2,r2,h2,h⟩:=Bn h
 obtain⟨w2,rfl,k2,rfl⟩:=Nq h2 (by simp)
 obtain⟨y3,r3,h3,h⟩:=Bn h
 obtain⟨w3,rfl,k3,rfl⟩:=Nq h3 (by simp)
 obtain⟨y4,r4,h4,h⟩:=Bn h
 obtain⟨n4,a4,t4,rfl⟩:=Qm h4 (by simp)
 obtain⟨y5,r5,h5,h⟩:=Bn h
 obtain⟨a5,t5,rfl⟩:=Di h5
 obtain⟨y6,r6,h6,h⟩:=Bn h
 obtain⟨a6,t6,rfl⟩:=Di h6
 obtain⟨y7,r7,h7,h⟩:=Bn h
 obtain⟨a7,t7,rfl⟩:=Di h7
 obtain⟨z,r',rfl,hz,Ab⟩:=Gw h
 cases Ab
 obtain⟨q0,D0,d0,g0,c0⟩:=hT ns _ _ a0 t0 (by omega) L _ e i j nm (G) 2 hL hi hj (.inr rfl) hnm hG hd
 have z0:=Ag (a0.tm i j)
 obtain⟨q1,D1,d1,g1,c1⟩:=hT ns _ _ a1 t1 (by omega) L _ e i j nm ((G++D0)) 2 hL hi hj (.inr rfl) hnm (hG.app g0) d0
 have z1:=Ag (a1.tm i j)
 have c2:=Ii (e:=e) (i:=i) (j:=j) (nm:=nm) (G:=((G++D0)++D1)) d1 hL
 rw [k2] at c2
 have c3:=Ii (e:=e) (i:=i) (j:=j) (nm:=nm) (G:=((G++D0)++D1)) (Ar d1) hL
 rw [k3] at c3
 obtain⟨q4,D4,d4,g4,c4⟩:=hT ([w3.w,w2.w]++ns) _ _ a4 t4 (by simp;omega) L _ e i j (nmV ([w3.w,w2.w]++ns)) (((G++D0)++D1)) 2 hL hi hj (.inr rfl) (.inr rfl) ((hG.app g0).app g1) (Ar (Ar d1))
 have z4:=Ag (a4.tm i j)
 obtain⟨q5,D5,d5,g5,c5⟩:=hT ns _ _ a5 t5 (by omega) L _ e i j nm ((((G++D0)++D1)++D4)) 2 hL hi hj (.inr rfl) hnm (((hG.app g0).app g1).app g4) d4
 have z5:=Ag (a5.tm i j)
 obtain⟨q6,D6,d6,g6,c6⟩:=hT ns _ _ a6 t6 (by omega) L _ e i j nm (((((G++D0)++D1)++D4)++D5)) 2 hL hi hj (.inr rfl) hnm ((((hG.app g0).app g1).app g4).app g5) d5
 have z6:=Ag (a6.tm i j)
 obtain⟨q7,D7,d7,g7,c7⟩:=hT ns _ _ a7 t7 (by omega) L _ e i j nm ((((((G++D0)++D1)++D4)++D5)++D6)) 2 hL hi hj (.inr rfl) hnm (((((hG.app g0).app g1).app g4).app g5).app g6) d6
 have z7:=Ag (a7.tm i j)
 have ce:=Ii (e:=e) (i:=i) (j:=j) (nm:=nm) (G:=((((((G++D0)++D1)++D4)++D5)++D6)++D7)) d7 hL
 rw [hz] at ce
 refine⟨_,D0++(D1++(D4++(D5++(D6++(D7))))),Ar d7,g0.app (g1.app (g4.app (g5.app (g6.app (g7))))),?_⟩
 have eT:LT.tm i j (.nd k .z .z 0 [a0,a1,a4,a5,a6,a7])=.mk k 0 0 0 [a0.tm i j,a1.tm i j,a4.tm i j,a5.tm i j,a6.tm i j,a7.tm i j]:=by simp [LT.tm,LT.tms,LE.ev]
 change Ad _ _ _ (.ret (.agg true (tv (LT.tm i j (.nd k .z .z 0 [a0,a1,a4,a5,a6,a7]))))) _
 rw [eT,Am]
 simp only [q_h,q_i]
 have No:¬(k:Int)≤12:=by omega
 have Ay:8≤140737488355328:=by decide
 have Zv:nm=nmV ns:=hnm.resolve_left (fun h=>n4 h.2)
 subst Zv
 have Cp:(ns.reverse.map wdR).length=ns.length:=by simp
 have Cj:¬ns.length=0:=fun e=>n4 (List.length_eq_zero_iff.1 e)
 have Bi:ns.length*16≤140737488355328:=by omega
 have Cs:ns.length≤140737488355328:=by omega
 have Cq:(ns.length+2)*16≤140737488355328:=by omega
 have Cu:ns.length≤140737488355326:=by omega
 have Zw:nmV ([w3.w,w2.w]++ns)=.dsl 1 (ns.reverse.map wdR++[wdR w2.w,wdR w3.w]):=by simp [nmV]
 rw [Zw] at c4
 unfold nmV at *
 generalize ns.reverse.map wdR=R at *
 have Cl:List.take (ns.length+2) (R++[[SV.str (bs w2.w)],[SV.str (bs w3.w)]])=R++[[SV.str (bs w2.w)],[SV.str (bs w3.w)]]:=List.take_of_length_le (by simp;omega)
 unfold rdR at c0 c1 c2 c3 c4 c5 c6 c7 ce ⊢
 refine Aq mixed Tryz.func152 tr152 ?_
 simp only [go_sem,seval,No]
 refine Cf 9 (Ak ?_)
 simp only [go_sem,seval,u80,u101,u116,u121,wr7,wr8,z0,z1,z4,z5,z6,z7,Cp,wdR,Cj,Bi,Cs,Cq,Cu,Cl]
 refine Ac c0 ?_
 simp only [go_sem,seval,u80,u101,u116,u121,wr7,wr8,z0,z1,z4,z5,z6,z7,Cp,wdR,Cj,Bi,Cs,Cq,Cu,Cl]
 refine Ak ?_
 simp only [go_sem,seval,u80,u101,u116,u121,wr7,wr8,z0,z1,z4,z5,z6,z7,Cp,wdR,Cj,Bi,Cs,Cq,Cu,Cl]
 refine Ac c1 ?_
 simp only [go_sem,seval,u80,u101,u116,u121,wr7,wr8,z0,z1,z4,z5,z6,z7,Cp,wdR,Cj,Bi,Cs,Cq,Cu,Cl]
 refine Ak ?_
 simp only [go_sem,seval,u80,u101,u116,u121,wr7,wr8,z0,z1,z4,z5,z6,z7,Cp,wdR,Cj,Bi,Cs,Cq,Cu,Cl]
 refine Ac c2 ?_
 simp only [go_sem,seval,u80,u101,u116,u121,wr7,wr8,z0,z1,z4,z5,z6,z7,Cp,wdR,Cj,Bi,Cs,Cq,Cu,Cl]
 refine Ak ?_
 simp only [go_sem,seval,u80,u101,u116,u121,wr7,wr8,z0,z1,z4,z5,z6,z7,Cp,wdR,Cj,Bi,Cs,Cq,Cu,Cl]
 refine Ac c3 ?_
 simp only [go_sem,seval,u80,u101,u116,u121,wr7,wr8,z0,z1,z4,z5,z6,z7,Cp,wdR,Cj,Bi,Cs,Cq,Cu,Cl]
 refine Ak ?_
 simp only [go_sem,seval,u80,u101,u116,u121,wr7,wr8,z0,z1,z4,z5,z6,z7,Cp,wdR,Cj,Bi,Cs,Cq,Cu,Cl]
 refine Ac c4 ?_
 simp only [go_sem,seval,u80,u101,u116,u121,wr7,wr8,z0,z1,z4,z5,z6,z7,Cp,wdR,Cj,Bi,Cs,Cq,Cu,Cl]
 refine Ak ?_
 simp only [go_sem,seval,u80,u101,u116,u121,wr7,wr8,z0,z1,z4,z5,z6,z7,Cp,wdR,Cj,Bi,Cs,Cq,Cu,Cl]
 refine Ac c5 ?_
 simp only [go_sem,seval,u80,u101,u116,u121,wr7,wr8,z0,z1,z4,z5,z6,z7,Cp,wdR,Cj,Bi,Cs,Cq,Cu,Cl]
 refine Ak ?_
 simp only [go_sem,seval,u80,u101,u116,u121,wr7,wr8,z0,z1,z4,z5,z6,z7,Cp,wdR,Cj,Bi,Cs,Cq,Cu,Cl]
 refine Ac c6 ?_
 simp only [go_sem,seval,u80,u101,u116,u121,wr7,wr8,z0,z1,z4,z5,z6,z7,Cp,wdR,Cj,Bi,Cs,Cq,Cu,Cl]
 refine Ak ?_
 simp only [go_sem,seval,u80,u101,u116,u121,wr7,wr8,z0,z1,z4,z5,z6,z7,Cp,wdR,Cj,Bi,Cs,Cq,Cu,Cl]
 refine Ac c7 ?_
 simp only [go_sem,seval,u80,u101,u116,u121,wr7,wr8,z0,z1,z4,z5,z6,z7,Cp,wdR,Cj,Bi,Cs,Cq,Cu,Cl]
 refine Ak ?_
 simp only [go_sem,seval,u80,u101,u116,u121,wr7,wr8,z0,z1,z4,z5,z6,z7,Cp,wdR,Cj,Bi,Cs,Cq,Cu,Cl]
 refine Ac ce ?_
 simp only [go_sem,seval,u80,u101,u116,u121,wr7,wr8,z0,z1,z4,z5,z6,z7,Cp,wdR,Cj,Bi,Cs,Cq,Cu,Cl,List.append_assoc]
theorem Auo (hL:L.length<1000000000000) (hi:i<1000) (hj:j<1000) (hd:L.drop k0=ts) (h:Er T ns 1 [76] {} ts=some (lt,r)):LC 1 [76] L k0 e i j nm G lt r:=by
 obtain⟨y0,r0,h0,h⟩:=Bn h
 obtain⟨a0,t0,rfl⟩:=Aab h0
 obtain⟨z,r',rfl,hz,Ab⟩:=Gw h
 cases Ab
 obtain⟨q0,d0,c0⟩:=Aca (e:=e) (nm:=nm) (G:=G) hd hL hi hj t0
 have ce:=Ii (e:=e) (i:=i) (j:=j) (nm:=nm) (G:=G) d0 hL
 rw [hz] at ce
 refine⟨_,[],Ar d0,NG.nil,?_⟩
 have eT:LT.tm i j (.nd 1 a0 .z 0 [])=.mk 1 (a0.ev i j:Nat) 0 0 []:=by simp [LT.tm,LT.tms,LE.ev]
 change Ad _ _ _ (.ret (.agg true (tv (LT.tm i j (.nd 1 a0 .z 0 []))))) _
 rw [eT]
 rw [List.append_nil]
 unfold rdR at c0 ce ⊢
 refine (Aq (out:=.ret (.agg true [.int .i64 1,.int .i64 (a0.ev i j:Nat),.int .i64 0,.int .i64 0,.nils])) mixed Tryz.func152 tr152 ?_).weaken (Mh _ _ _ _)
 simp only [go_sem,seval]
 refine Cf 2 (Ak ?_)
 simp only [go_sem,seval,u76]
 refine Ac c0 ?_
 simp only [go_sem,seval,u76]
 refine Ak ?_
 simp only [go_sem,seval,u76]
 refine Ac ce ?_
 simp only [go_sem,seval,u76]
end
open Go Go.Proofs Go.Proofs.YtdpigpopcbjkmaaGreatDoor
def a72_28:AC:=.seq (sqF [oP 66 (mT 11),oP 67 (nkT 66),oP 68 (fdT 2 67),oP 69 (ldT 68),oP 70 (.bin 0 .lss (.t 69) (cI 0)),oP 71 (mT 70),oG 72 71 true 0 (mT 11),oG 73 71 true 0 (.hcall 99 [(.t 72)]),oG 74 71 true 0 (.bin 0 .eql (.t 73) (cI 1)),oP 75 (.pick (.t 71) (.t 74) (cB false))] (.cond (.t 75) .skip (.exit 0))) (.blk 1 (sqF [oP 76 (mT 11),oP 77 (nkT 76),oP 78 (fdT 1 77),oP 79 (ldT 78),oP 80 (.bin 0 .add (.t 79) (cI 1)),oP 81 (nkT 76),oP 82 (fdT 1 81),oN (.store 1 (.t 82) (.t 80))] (sqF [oP 83 (mT 11),oP 84 (.hcall 98 [(.t 83),(cI 3)]),oP 14 (mT 84)] (sqF [oP 85 (mT 13),oP 86 (mT 11),oP 87 (.hcall 100 [(.t 86),(cI 2)]),oP 88 (.bslice 5 [(.t 87)]),oP 89 (.app 5 56 (.t 85) (.t 88)),oP 13 (mT 89)] (sqF [oP 90 (mT 11),oP 91 (.hcall 98 [(.t 90),(cI 2)])] (rgF [oP 92 (mT 11),oP 93 (mT 14),oP 94 (.bslice 1 [(.t 93)]),oP 95 (.hcall 101 [(.t 92),(.t 94)])]))))))
def a72_51:AC:=sqF [oP 96 (mT 11),oP 97 (.hcall 98 [(.t 96),(cI 2)])] (sqF [oP 98 (mT 13),oP 99 (fdT 1 12),oN (.store 1 (.t 99) (.t 98))] (sqF [oP 100 (mT 11),oP 101 (.hcall 100 [(.t 100),(cI 2)]),oP 102 (fdT 2 12),oN (.store 5 (.t 102) (.t 101))] (.seq (sqF [oP 103 (fdT 12 12),oP 104 (ldT 103)] (.cond (.t 104) (rgF [oP 105 (mT 11),oP 106 (.hcall 100 [(.t 105),(cI 2)]),oP 107 (fdT 7 12),oN (.store 5 (.t 107) (.t 106))]) .skip)) (sqF [oP 108 (mT 11),oP 109 (.hcall 98 [(.t 108),(cI 2)])] (.seq (sqF [oP 110 (mT 11),oP 111 (nkT 110),oP 112 (fdT 2 111),oP 113 (ldT 112),oP 114 (.bin 0 .geq (.t 113) (cI 0))] (.cond (.t 114) (sqF [oP 115 (.build [(.str (bs [])),.nils,(iS 0),(iS 0),(iS 0),(iS 0),.nils,(iS 0),(iS 0),(iS 0),(iS 0),.nils,(.bool false)] []),oN (.store 13 (.t 6) (.t 115)),oP 7 (.mv (cB false))] .ret) .skip)) (sqF [oP 116 (.load true 13 (.t 12)),oN (.store 13 (.t 6) (.t 116)),oP 7 (.mv (cB true))] .ret))))))
def af72:AF:=⟨117,[(.cell 6 true 13),(.t 7)],(sqF [oP 6 (.new [(.str (bs [])),.nils,(iS 0),(iS 0),(iS 0),(iS 0),.nils,(iS 0),(iS 0),(iS 0),(iS 0),.nils,(.bool false)]),oP 7 (.mv (cB false))] (sqF [oP 15 (.call 96 []),oP 8 (mT 15)] (.seq (sqF [oP 16 (mT 0),oP 17 (.bin 0 .lss (.t 16) (cI 1)),oP 18 (mT 17),oG 19 18 false 0 (mT 0),oG 20 18 false 0 (mT 8),oG 21 18 false 0 (.len false (.t 20)),oG 22 18 false 0 (.bin 0 .gtr (.t 19) (.t 21)),oP 23 (.pick (.t 18) (cB true) (.t 22)),oP 24 (mT 23),oG 25 24 false 0 (mT 1),oG 26 24 false 0 (.bin 0 .lss (.t 25) (cI 0)),oP 27 (.pick (.t 24) (cB true) (.t 26)),oP 28 (mT 27),oG 29 28 false 0 (mT 1),oG 30 28 false 0 (.bin 0 .geq (.t 29) (cI 1000)),oP 31 (.pick (.t 28) (cB true) (.t 30)),oP 32 (mT 31),oG 33 32 false 0 (mT 2),oG 34 32 false 0 (.bin 0 .lss (.t 33) (cI 0)),oP 35 (.pick (.t 32) (cB true) (.t 34)),oP 36 (mT 35),oG 37 36 false 0 (mT 2),oG 38 36 false 0 (.bin 0 .geq (.t 37) (cI 1000)),oP 39 (.pick (.t 36) (cB true) (.t 38))] (.cond (.t 39) (sqF [oP 40 (.build [(.str (bs [])),.nils,(iS 0),(iS 0),(iS 0),(iS 0),.nils,(iS 0),(iS 0),(iS 0),(iS 0),.nils,(.bool false)] []),oN (.store 13 (.t 6) (.t 40)),oP 7 (.mv (cB false))] .ret) .skip)) (sqF [oP 42 (mT 8),oP 43 (mT 0),oP 44 (.bin 0 .sub (.t 43) (cI 1)),oP 45 (.iad 1 (.t 42) (.t 44)),oP 46 (ldT 45),oP 47 (.call 97 [(.t 46)]),oP 41 (mT 47),oP 48 (.ext (.t 41) 0),oP 49 (.ext (.t 41) 1),oP 9 (mT 48),oP 10 (mT 49)] (sqF [oP 50 (mT 9),oP 51 (mT 1),oP 52 (mT 2),oP 53 (.build [.nils,(iS 0),(iS 0),(iS 0),(iS 0),.nils] [(0,(1,(.t 50))),(2,(1,(cI (-1)))),(3,(1,(.t 51))),(4,(1,(.t 52)))]),oP 54 (.boxg (.t 53)),oP 11 (mT 54)] (sqF [oP 55 (mT 11),oP 56 (.hcall 98 [(.t 55),(cI 1)])] (sqF [oP 12 (.new [(.str (bs [])),.nils,(iS 0),(iS 0),(iS 0),(iS 0),.nils,(iS 0),(iS 0),(iS 0),(iS 0),.nils,(.bool false)])] (sqF [oP 57 (mT 11),oP 58 (.hcall 98 [(.t 57),(cI 3)]),oP 59 (.bin 4 .eql (.t 58) (.c (.str (bs [100,101,102])))),oP 60 (fdT 12 12),oN (.store 1 (.t 60) (.t 59))] (sqF [oP 61 (mT 11),oP 62 (.hcall 98 [(.t 61),(cI 3)]),oP 63 (fdT 0 12),oN (.store 1 (.t 63) (.t 62))] (sqF [oP 64 (mT 11),oP 65 (.hcall 98 [(.t 64),(cI 1)])] (sqF [oP 13 (.mv (.c .nils))] (.seq (.blk 0 (.loop a72_28)) a72_51))))))))))))⟩
theorem tr72:trF Tryz.prog Tryz.f72=some af72:=by kernel_rfl
attribute [go_sem] af72 a72_28 a72_51
def af98:AF:=⟨31,[(.t 4)],(sqF [oP 4 (.mv (.c (.str (bs []))))] (.seq (sqF [oP 6 (mT 0),oP 7 (nkT 6),oP 8 (fdT 2 7),oP 9 (ldT 8),oP 10 (.bin 0 .geq (.t 9) (cI 0))] (.cond (.t 10) (sqF [oP 4 (.mv (.c (.str (bs []))))] .ret) .skip)) (.seq (sqF [oP 11 (mT 0),oP 12 (.hcall 99 [(.t 11)]),oP 13 (mT 1),oP 14 (.bin 0 .neq (.t 12) (.t 13))] (.cond (.t 14) (sqF [oP 15 (mT 0),oP 16 (mT 0),oP 17 (nkT 16),oP 18 (fdT 1 17),oP 19 (ldT 18),oP 20 (.hcall 118 [(.t 15),(.t 19)])] (sqF [oP 4 (.mv (.c (.str (bs []))))] .ret)) .skip)) (sqF [oP 21 (mT 0),oP 22 (.hcall 119 [(.t 21)]),oP 5 (mT 22)] (sqF [oP 23 (mT 0),oP 24 (nkT 23),oP 25 (fdT 1 24),oP 26 (ldT 25),oP 27 (.bin 0 .add (.t 26) (cI 1)),oP 28 (nkT 23),oP 29 (fdT 1 28),oN (.store 1 (.t 29) (.t 27))] (sqF [oP 30 (mT 5),oP 4 (mT 30)] .ret))))))⟩
theorem tr98:trF Tryz.prog Tryz.f98=some af98:=by kernel_rfl
attribute [go_sem] af98
def af99:AF:=⟨24,[(.t 2)],(sqF [oP 2 (.mv (cI 0))] (.seq (sqT [oP 3 (mT 0),oI 4 1 (nkT 3),oI 5 2 (fdT 1 4),oI 6 3 (ldT 5),oI 7 4 (mT 0),oI 8 5 (nkT 7),oI 9 6 (fdT 0 8),oI 10 7 (ldT 9),oI 11 8 (.len false (.t 10)),oI 12 9 (.bin 0 .lss (.t 6) (.t 11))] (.cond (.t 12) (sqT [oP 13 (mT 0),oI 14 1 (nkT 13),oI 15 2 (fdT 0 14),oI 16 3 (ldT 15),oI 17 4 (mT 0),oI 18 5 (nkT 17),oI 19 6 (fdT 1 18),oI 20 7 (ldT 19),oI 21 8 (.iad 3 (.t 16) (.t 20)),oI 22 9 (fdT 0 21),oI 23 10 (ldT 22),oI 2 11 (mT 23)] .ret) .skip)) (sqF [oP 2 (.mv (cI 0))] .ret)))⟩
theorem tr99:trF Tryz.prog Tryz.f99=some af99:=by kernel_rfl
attribute [go_sem] af99
def af100:AF:=⟨89,[(.cell 4 true 5)],(sqF [oP 4 (.new [(iS 0),(iS 0),(iS 0),(iS 0),.nils])] (.seq (sqF [oP 7 (mT 0),oP 8 (nkT 7),oP 9 (fdT 2 8),oP 10 (ldT 9),oP 11 (.bin 0 .geq (.t 10) (cI 0))] (.cond (.t 11) (sqF [oP 12 (.build [(iS 0),(iS 0),(iS 0),(iS 0),.nils] []),oN (.store 5 (.t 4) (.t 12))] .ret) .skip)) (.seq (sqF [oP 13 (mT 0),oP 14 (.hcall 99 [(.t 13)]),oP 15 (.bin 0 .eql (.t 14) (cI 3))] (.cond (.t 15) (.seq (sqF [oP 16 (mT 0),oP 17 (nkT 16),oP 18 (fdT 5 17),oP 19 (ldT 18),oP 20 (.len false (.t 19)),oP 21 (.bin 0 .sub (.t 20) (cI 1)),oP 5 (mT 21)] (.blk 0 (.loop (.seq (sqF [oP 22 (mT 5),oP 23 (.bin 0 .geq (.t 22) (cI 0))] (.cond (.t 23) .skip (.exit 0))) (.seq (.blk 1 (sqT [oP 26 (mT 0),oI 27 1 (nkT 26),oI 28 2 (fdT 5 27),⟨(some 29),(ldT 28),none,3,true,[]⟩,oI 30 4 (mT 5),⟨(some 31),(.iad 1 (.t 29) (.t 30)),none,5,true,[]⟩,⟨(some 32),(ldT 31),none,6,true,[]⟩,oI 33 7 (mT 0),⟨(some 34),(.hcall 119 [(.t 33)]),none,8,false,[3,5,6,8]⟩,oI 35 9 (.bin 4 .eql (.t 32) (.t 34))] (.cond (.t 35) (sqF [oP 36 (mT 0),oP 37 (nkT 36),oP 38 (fdT 1 37),oP 39 (ldT 38),oP 40 (.bin 0 .add (.t 39) (cI 1)),oP 41 (nkT 36),oP 42 (fdT 1 41),oN (.store 1 (.t 42) (.t 40))] (sqF [oP 43 (mT 0),oP 44 (nkT 43),oP 45 (fdT 5 44),oP 46 (ldT 45),oP 47 (.len false (.t 46)),oP 48 (.bin 0 .sub (.t 47) (cI 1)),oP 49 (mT 5),oP 50 (.bin 0 .sub (.t 48) (.t 49)),oP 51 (.build [(iS 0),(iS 0),(iS 0),(iS 0),.nils] [(0,(1,(cI 2))),(1,(1,(.t 50)))]),oN (.store 5 (.t 4) (.t 51))] .ret)) .skip))) (rgF [oP 24 (mT 5),oP 25 (.bin 0 .sub (.t 24) (cI 1)),oP 5 (mT 25)])))))) (sqF [oP 52 (mT 0),oP 53 (mT 0),oP 54 (nkT 53),oP 55 (fdT 1 54),oP 56 (ldT 55),oP 57 (.hcall 118 [(.t 52),(.t 56)])] (sqF [oP 58 (.build [(iS 0),(iS 0),(iS 0),(iS 0),.nils] []),oN (.store 5 (.t 4) (.t 58))] .ret))) .skip)) (sqF [oP 59 (mT 0),oP 60 (.hcall 98 [(.t 59),(cI 1)])] (.seq (sqF [oP 61 (mT 0),oP 62 (nkT 61),oP 63 (fdT 2 62),oP 64 (ldT 63),oP 65 (.bin 0 .geq (.t 64) (cI 0))] (.cond (.t 65) (sqF [oP 66 (.build [(iS 0),(iS 0),(iS 0),(iS 0),.nils] []),oN (.store 5 (.t 4) (.t 66))] .ret) .skip)) (sqF [oP 67 (mT 0),oP 68 (mT 1),oP 69 (.hcall 120 [(.t 67),(.t 68)]),oP 6 (mT 69)] (.seq (sqF [oP 70 (mT 6),oP 71 (.bin 0 .eql (.t 70) (cI 0))] (.cond (.t 71) (sqF [oP 72 (mT 0),oP 73 (mT 0),oP 74 (nkT 73),oP 75 (fdT 1 74),oP 76 (ldT 75),oP 77 (.hcall 118 [(.t 72),(.t 76)])] (sqF [oP 78 (.build [(iS 0),(iS 0),(iS 0),(iS 0),.nils] []),oN (.store 5 (.t 4) (.t 78))] .ret)) .skip)) (sqF [oP 79 (mT 0),oP 80 (nkT 79),oP 81 (fdT 1 80),oP 82 (ldT 81),oP 83 (.bin 0 .add (.t 82) (cI 1)),oP 84 (nkT 79),oP 85 (fdT 1 84),oN (.store 1 (.t 85) (.t 83))] (sqF [oP 86 (mT 0),oP 87 (mT 6),oP 88 (.hcall 121 [(.t 86),(.t 87)]),oN (.store 5 (.t 4) (.t 88))] .ret)))))))))⟩
theorem tr100:trF Tryz.prog Tryz.f100=some af100:=by kernel_rfl
attribute [go_sem] af100
def af101:AF:=⟨15,[],(rgF [oP 4 (mT 0),oP 5 (.bslice 1 []),oP 6 (mT 0),oP 7 (nkT 6),oP 8 (fdT 5 7),oP 9 (ldT 8),oP 10 (.app 1 16 (.t 5) (.t 9)),oP 11 (mT 1),oP 12 (.app 1 16 (.t 10) (.t 11)),oP 13 (nkT 4),oP 14 (fdT 5 13),oN (.store 1 (.t 14) (.t 12))])⟩
theorem tr101:trF Tryz.prog Tryz.f101=some af101:=by kernel_rfl
attribute [go_sem] af101
def af119:AF:=⟨24,[(.t 2)],(sqF [oP 2 (.mv (.c (.str (bs []))))] (.seq (sqT [oP 3 (mT 0),oI 4 1 (nkT 3),oI 5 2 (fdT 1 4),oI 6 3 (ldT 5),oI 7 4 (mT 0),oI 8 5 (nkT 7),oI 9 6 (fdT 0 8),oI 10 7 (ldT 9),oI 11 8 (.len false (.t 10)),oI 12 9 (.bin 0 .lss (.t 6) (.t 11))] (.cond (.t 12) (sqT [oP 13 (mT 0),oI 14 1 (nkT 13),oI 15 2 (fdT 0 14),oI 16 3 (ldT 15),oI 17 4 (mT 0),oI 18 5 (nkT 17),oI 19 6 (fdT 1 18),oI 20 7 (ldT 19),oI 21 8 (.iad 3 (.t 16) (.t 20)),oI 22 9 (fdT 1 21),oI 23 10 (ldT 22),oI 2 11 (mT 23)] .ret) .skip)) (sqF [oP 2 (.mv (.c (.str (bs []))))] .ret)))⟩
theorem tr119:trF Tryz.prog Tryz.f119=some af119:=by kernel_rfl
attribute [go_sem] af119
def af120:AF:=⟨55,[(.t 4)],(sqF [oP 4 (.mv (cI 0))] (.seq (sqF [oP 8 (mT 0),oP 9 (.hcall 99 [(.t 8)]),oP 10 (.bin 0 .neq (.t 9) (cI 3))] (.cond (.t 10) (sqF [oP 4 (.mv (cI 0))] .ret) .skip)) (sqF [oP 11 (.call 130 []),oP 5 (mT 11)] (.seq (sqF [oP 6 (.mv (cI 0))] (.blk 0 (.loop (.seq (sqF [oP 12 (mT 6),oP 13 (mT 5),oP 14 (.len false (.t 13)),oP 15 (.bin 0 .lss (.t 12) (.t 14))] (.cond (.t 15) .skip (.exit 0))) (.seq (.blk 1 (sqT [oP 18 (mT 5),oI 19 1 (mT 6),⟨(some 20),(.iad 1 (.t 18) (.t 19)),none,2,true,[]⟩,⟨(some 21),(ldT 20),none,3,true,[]⟩,oI 22 4 (mT 0),⟨(some 23),(.hcall 119 [(.t 22)]),none,5,false,[2,3,5]⟩,oI 24 6 (.bin 4 .eql (.t 21) (.t 23)),oI 25 7 (mT 24),oG 26 25 true 8 (mT 1),oG 27 25 true 9 (.bin 0 .neq (.t 26) (cI 2)),oG 28 25 true 10 (mT 27),oG 29 28 false 11 (mT 6),oG 30 28 false 12 (.bin 0 .eql (.t 29) (cI 0)),oG 31 25 true 13 (.pick (.t 28) (cB true) (.t 30)),oI 32 14 (.pick (.t 25) (.t 31) (cB false))] (.cond (.t 32) (sqF [oP 33 (mT 6),oP 34 (.bin 0 .add (.t 33) (cI 1)),oP 4 (mT 34)] .ret) .skip))) (rgF [oP 16 (mT 6),oP 17 (.bin 0 .add (.t 16) (cI 1)),oP 6 (mT 17)])))))) (sqF [oP 35 (.call 131 []),oP 5 (mT 35)] (.seq (sqF [oP 7 (.mv (cI 0))] (.blk 2 (.loop (.seq (sqF [oP 36 (mT 7),oP 37 (mT 5),oP 38 (.len false (.t 37)),oP 39 (.bin 0 .lss (.t 36) (.t 38))] (.cond (.t 39) .skip (.exit 2))) (.seq (.blk 3 (sqT [oP 42 (mT 5),oI 43 1 (mT 7),⟨(some 44),(.iad 1 (.t 42) (.t 43)),none,2,true,[]⟩,⟨(some 45),(ldT 44),none,3,true,[]⟩,oI 46 4 (mT 0),⟨(some 47),(.hcall 119 [(.t 46)]),none,5,false,[2,3,5]⟩,oI 48 6 (.bin 4 .eql (.t 45) (.t 47)),oI 49 7 (mT 48),oG 50 49 true 8 (mT 1),oG 51 49 true 9 (.bin 0 .neq (.t 50) (cI 1)),oI 52 10 (.pick (.t 49) (.t 51) (cB false))] (.cond (.t 52) (sqF [oP 53 (mT 7),oP 54 (.bin 0 .add (cI 13) (.t 53)),oP 4 (mT 54)] .ret) .skip))) (rgF [oP 40 (mT 7),oP 41 (.bin 0 .add (.t 40) (cI 1)),oP 7 (mT 41)])))))) (sqF [oP 4 (.mv (cI 0))] .ret)))))))⟩
theorem tr120:trF Tryz.prog Tryz.f120=some af120:=by kernel_rfl
attribute [go_sem] af120
def a121_107:AC:=.seq (sqF [oP 81 (mT 10),oP 82 (mT 1),oP 83 (fdT 3 5),oP 84 (ldT 83),oP 85 (.call 62 [(.t 82),(.t 84)]),oP 86 (.bin 0 .lss (.t 81) (.t 85))] (.cond (.t 86) .skip (.exit 1))) (.seq (.blk 2 (.seq (sqF [oP 89 (mT 1),oP 90 (.bin 0 .eql (.t 89) (cI 22)),oP 91 (mT 90),oG 92 91 true 0 (mT 10),oG 93 91 true 0 (.bin 0 .eql (.t 92) (cI 2)),oP 94 (.pick (.t 91) (.t 93) (cB false))] (.cond (.t 94) (sqF [oP 95 (mT 0),oP 96 (.hcall 98 [(.t 95),(cI 3)]),oP 11 (mT 96)] (rgF [oP 97 (mT 11),oP 98 (mT 0),oP 99 (.hcall 98 [(.t 98),(cI 3)]),oP 100 (.bslice 1 [(.t 97),(.t 99)]),oP 8 (mT 100)])) .skip)) (sqF [oP 101 (mT 1),oP 102 (mT 10),oP 103 (.call 65 [(.t 101),(.t 102)]),oP 12 (mT 103)] (.seq (sqF [oP 104 (mT 12),oP 105 (.bin 0 .gtr (.t 104) (cI 0))] (.cond (.t 105) (rgF [oP 106 (mT 0),oP 107 (mT 8),oP 108 (.hcall 101 [(.t 106),(.t 107)])]) .skip)) (sqF [oP 109 (mT 6),oP 13 (mT 109)] (.seq (sqF [oP 110 (mT 1),oP 111 (.bin 0 .eql (.t 110) (cI 12)),oP 112 (mT 111),oG 113 112 true 0 (mT 10),oG 114 112 true 0 (.bin 0 .eql (.t 113) (cI 2)),oP 115 (.pick (.t 112) (.t 114) (cB false))] (.cond (.t 115) (rgF [oP 13 (.mv (cI 2))]) .skip)) (sqF [oP 116 (mT 9),oP 117 (mT 0),oP 118 (mT 13),oP 119 (.hcall 100 [(.t 117),(.t 118)]),oP 120 (.bslice 5 [(.t 119)]),oP 121 (.app 5 56 (.t 116) (.t 120)),oP 9 (mT 121)] (sqF [oP 122 (mT 12),oP 123 (.bin 0 .gtr (.t 122) (cI 0))] (.cond (.t 123) (rgF [oP 124 (mT 0),oP 125 (mT 12),oP 126 (.hcall 134 [(.t 124),(.t 125)])]) .skip))))))))) (rgF [oP 87 (mT 10),oP 88 (.bin 0 .add (.t 87) (cI 1)),oP 10 (mT 88)]))
def a121_116:AC:=sqF [oP 127 (mT 0),oP 128 (.hcall 98 [(.t 127),(cI 2)])] (sqF [oP 129 (mT 9),oP 130 (fdT 4 5),oN (.store 1 (.t 130) (.t 129))] (sqF [oP 131 (.load true 5 (.t 5)),oN (.store 5 (.t 4) (.t 131))] .ret))
def af121:AF:=⟨132,[(.cell 4 true 5)],(sqF [oP 4 (.new [(iS 0),(iS 0),(iS 0),(iS 0),.nils])] (sqF [oP 14 (mT 1),oP 15 (.build [(iS 0),(iS 0),(iS 0),(iS 0),.nils] [(0,(1,(.t 14)))]),oP 5 (.new [(iS 0),(iS 0),(iS 0),(iS 0),.nils]),oN (.store 5 (.t 5) (.t 15))] (sqF [oP 6 (.mv (cI 1))] (.seq (sqF [oP 16 (mT 1),oP 17 (.bin 0 .gtr (.t 16) (cI 12))] (.cond (.t 17) (rgF [oP 6 (.mv (cI 2))]) .skip)) (.seq (sqF [oP 18 (mT 1)] (.blk 0 (sqF [oP 20 (.bin 0 .eql (.t 18) (cI 23)),oP 19 (mT 20)] (.cond (.t 19) (sqF [oP 21 (mT 0),oP 22 (.hcall 119 [(.t 21)]),oP 23 (.call 132 [(.t 22)]),oP 7 (mT 23)] (.seq (sqF [oP 24 (mT 0),oP 25 (.hcall 99 [(.t 24)]),oP 26 (.bin 0 .neq (.t 25) (cI 3)),oP 27 (mT 26),oG 28 27 false 0 (mT 7),oG 29 27 false 0 (.bin 0 .eql (.t 28) (cI 0)),oP 30 (.pick (.t 27) (cB true) (.t 29))] (.cond (.t 30) (sqF [oP 31 (mT 0),oP 32 (mT 0),oP 33 (nkT 32),oP 34 (fdT 1 33),oP 35 (ldT 34),oP 36 (.hcall 118 [(.t 31),(.t 35)])] (sqF [oP 37 (.build [(iS 0),(iS 0),(iS 0),(iS 0),.nils] []),oN (.store 5 (.t 4) (.t 37))] .ret)) .skip)) (sqF [oP 38 (mT 0),oP 39 (nkT 38),oP 40 (fdT 1 39),oP 41 (ldT 40),oP 42 (.bin 0 .add (.t 41) (cI 1)),oP 43 (nkT 38),oP 44 (fdT 1 43),oN (.store 1 (.t 44) (.t 42))] (sqF [oP 45 (mT 7),oP 46 (fdT 3 5),oN (.store 1 (.t 46) (.t 45))] (sqF [oP 47 (mT 0),oP 48 (.hcall 133 [(.t 47)]),oP 49 (fdT 1 5),oN (.store 1 (.t 49) (.t 48))] (rgF [oP 50 (mT 0),oP 51 (.hcall 133 [(.t 50)]),oP 52 (fdT 2 5),oN (.store 1 (.t 52) (.t 51))])))))) (.seq (sqF [oP 54 (.bin 0 .eql (.t 18) (cI 3)),oP 53 (mT 54)] (.cond (.t 53) .skip (sqF [oP 55 (.bin 0 .eql (.t 18) (cI 4)),oP 53 (mT 55)] (.cond (.t 53) .skip (sqF [oP 56 (.bin 0 .eql (.t 18) (cI 5)),oP 53 (mT 56)] (.cond (.t 53) .skip (sqF [oP 57 (.bin 0 .eql (.t 18) (cI 6)),oP 53 (mT 57)] (.cond (.t 53) .skip (sqF [oP 58 (.bin 0 .eql (.t 18) (cI 7)),oP 53 (mT 58)] (.cond (.t 53) .skip (sqF [oP 59 (.bin 0 .eql (.t 18) (cI 8)),oP 53 (mT 59)] (.cond (.t 53) .skip (rgF [oP 60 (.bin 0 .eql (.t 18) (cI 9)),oP 53 (mT 60)]))))))))))))) (.cond (.t 53) (sqF [oP 61 (mT 0),oP 62 (.hcall 133 [(.t 61)]),oP 63 (fdT 1 5),oN (.store 1 (.t 63) (.t 62))] (rgF [oP 64 (mT 0),oP 65 (.hcall 133 [(.t 64)]),oP 66 (fdT 2 5),oN (.store 1 (.t 66) (.t 65))])) (.seq (sqF [oP 68 (.bin 0 .eql (.t 18) (cI 1)),oP 67 (mT 68)] (.cond (.t 67) .skip (sqF [oP 69 (.bin 0 .eql (.t 18) (cI 10)),oP 67 (mT 69)] (.cond (.t 67) .skip (sqF [oP 70 (.bin 0 .eql (.t 18) (cI 11)),oP 67 (mT 70)] (.cond (.t 67) .skip (rgF [oP 71 (.bin 0 .eql (.t 18) (cI 12)),oP 67 (mT 71)]))))))) (.cond (.t 67) (rgF [oP 72 (mT 0),oP 73 (.hcall 133 [(.t 72)]),oP 74 (fdT 1 5),oN (.store 1 (.t 74) (.t 73))]) .skip)))))))) (sqF [oP 8 (.mv (.c .nils))] (.seq (sqF [oP 75 (mT 1),oP 76 (.call 65 [(.t 75),(cI 1)]),oP 77 (.bin 0 .eql (.t 76) (cI 1))] (.cond (.t 77) (rgF [oP 78 (mT 0),oP 79 (.hcall 98 [(.t 78),(cI 3)]),oP 80 (.bslice 1 [(.t 79)]),oP 8 (mT 80)]) .skip)) (sqF [oP 9 (.mv (.c .nils))] (.seq (sqF [oP 10 (.mv (cI 0))] (.blk 1 (.loop a121_107))) a121_116)))))))))⟩
theorem tr121:trF Tryz.prog Tryz.f121=some af121:=by kernel_rfl
attribute [go_sem] af121 a121_107 a121_116
def af130:AF:=⟨2,[(.t 0)],(sqF [oP 0 (.mv (.c .nils))] (sqF [oP 1 (.bslice 1 [(.c (.str (bs [115,111,114,116]))),(.c (.str (bs []))),(.c (.str (bs [112,105]))),(.c (.str (bs [108,97,109]))),(.c (.str (bs [97,112,112]))),(.c (.str (bs [115,105,103]))),(.c (.str (bs [112,97,105,114]))),(.c (.str (bs [102,115,116]))),(.c (.str (bs [115,110,100]))),(.c (.str (bs [101,113]))),(.c (.str (bs [114,101,102,108]))),(.c (.str (bs [116,114])))]),oP 0 (mT 1)] .ret))⟩
theorem tr130:trF Tryz.prog Tryz.f130=some af130:=by kernel_rfl
attribute [go_sem] af130
def af131:AF:=⟨2,[(.t 0)],(sqF [oP 0 (.mv (.c .nils))] (sqF [oP 1 (.bslice 1 [(.c (.str (bs [80,105]))),(.c (.str (bs [76,97,109]))),(.c (.str (bs [65,112,112]))),(.c (.str (bs [83,105,103]))),(.c (.str (bs [80,97,105,114]))),(.c (.str (bs [70,115,116]))),(.c (.str (bs [83,110,100]))),(.c (.str (bs [69,113]))),(.c (.str (bs [82,101,102,108]))),(.c (.str (bs [74]))),(.c (.str (bs [117,115,101])))]),oP 0 (mT 1)] .ret))⟩
theorem tr131:trF Tryz.prog Tryz.f131=some af131:=by kernel_rfl
attribute [go_sem] af131
def af132:AF:=⟨20,[(.t 2)],(sqF [oP 2 (.mv (cI 0))] (sqF [oP 5 (.call 142 []),oP 3 (mT 5)] (.seq (sqF [oP 4 (.mv (cI 0))] (.blk 0 (.loop (.seq (sqF [oP 6 (mT 4),oP 7 (mT 3),oP 8 (.len false (.t 7)),oP 9 (.bin 0 .lss (.t 6) (.t 8))] (.cond (.t 9) .skip (.exit 0))) (.seq (.blk 1 (sqF [oP 12 (mT 3),oP 13 (mT 4),oP 14 (.iad 1 (.t 12) (.t 13)),oP 15 (ldT 14),oP 16 (mT 0),oP 17 (.bin 4 .eql (.t 15) (.t 16))] (.cond (.t 17) (sqF [oP 18 (mT 4),oP 19 (.bin 0 .add (.t 18) (cI 1)),oP 2 (mT 19)] .ret) .skip))) (rgF [oP 10 (mT 4),oP 11 (.bin 0 .add (.t 10) (cI 1)),oP 4 (mT 11)])))))) (sqF [oP 2 (.mv (cI 0))] .ret))))⟩
theorem tr132:trF Tryz.prog Tryz.f132=some af132:=by kernel_rfl
attribute [go_sem] af132
def af133:AF:=⟨138,[(.t 2)],(sqF [oP 2 (.mv (cI 0))] (.seq (sqF [oP 6 (mT 0),oP 7 (nkT 6),oP 8 (fdT 2 7),oP 9 (ldT 8),oP 10 (.bin 0 .geq (.t 9) (cI 0))] (.cond (.t 10) (sqF [oP 2 (.mv (cI 0))] .ret) .skip)) (sqF [oP 11 (mT 0),oP 12 (nkT 11),oP 13 (fdT 1 12),oP 14 (ldT 13),oP 3 (mT 14),oP 4 (.mv (cI 0))] (.seq (.blk 0 (sqF [oP 22 (mT 0),oP 23 (.hcall 99 [(.t 22)]),oP 24 (.bin 0 .eql (.t 23) (cI 4)),oP 21 (mT 24)] (.cond (.t 21) (sqF [oP 26 (mT 0),oP 27 (.hcall 119 [(.t 26)]),oP 28 (.call 117 [(.t 27)]),oP 25 (mT 28),oP 29 (.ext (.t 25) 0),oP 30 (.ext (.t 25) 1),oP 4 (mT 29)] (rgF [oP 31 (mT 0),oP 32 (nkT 31),oP 33 (fdT 1 32),oP 34 (ldT 33),oP 35 (.bin 0 .add (.t 34) (cI 1)),oP 36 (nkT 31),oP 37 (fdT 1 36),oN (.store 1 (.t 37) (.t 35))])) (sqF [oP 39 (mT 0),oP 40 (.hcall 99 [(.t 39)]),oP 41 (.bin 0 .eql (.t 40) (cI 3)),oP 42 (mT 41),oG 43 42 true 0 (mT 0),oG 44 42 true 0 (.hcall 119 [(.t 43)]),oG 45 42 true 0 (.bin 4 .eql (.t 44) (.c (.str (bs [105])))),oP 46 (.pick (.t 42) (.t 45) (cB false)),oP 38 (mT 46)] (.cond (.t 38) (sqF [oP 47 (mT 0),oP 48 (nkT 47),oP 49 (fdT 3 48),oP 50 (ldT 49),oP 4 (mT 50)] (rgF [oP 51 (mT 0),oP 52 (nkT 51),oP 53 (fdT 1 52),oP 54 (ldT 53),oP 55 (.bin 0 .add (.t 54) (cI 1)),oP 56 (nkT 51),oP 57 (fdT 1 56),oN (.store 1 (.t 57) (.t 55))])) (sqF [oP 59 (mT 0),oP 60 (.hcall 99 [(.t 59)]),oP 61 (.bin 0 .eql (.t 60) (cI 3)),oP 62 (mT 61),oG 63 62 true 0 (mT 0),oG 64 62 true 0 (.hcall 119 [(.t 63)]),oG 65 62 true 0 (.bin 4 .eql (.t 64) (.c (.str (bs [106])))),oP 66 (.pick (.t 62) (.t 65) (cB false)),oP 58 (mT 66)] (.cond (.t 58) (sqF [oP 67 (mT 0),oP 68 (nkT 67),oP 69 (fdT 4 68),oP 70 (ldT 69),oP 4 (mT 70)] (rgF [oP 71 (mT 0),oP 72 (nkT 71),oP 73 (fdT 1 72),oP 74 (ldT 73),oP 75 (.bin 0 .add (.t 74) (cI 1)),oP 76 (nkT 71),oP 77 (fdT 1 76),oN (.store 1 (.t 77) (.t 75))])) (sqF [oP 79 (mT 0),oP 80 (.hcall 99 [(.t 79)]),oP 81 (.bin 0 .eql (.t 80) (cI 1)),oP 78 (mT 81)] (.cond (.t 78) (sqF [oP 82 (mT 0),oP 83 (nkT 82),oP 84 (fdT 1 83),oP 85 (ldT 84),oP 86 (.bin 0 .add (.t 85) (cI 1)),oP 87 (nkT 82),oP 88 (fdT 1 87),oN (.store 1 (.t 88) (.t 86))] (sqF [oP 89 (mT 0),oP 90 (.hcall 119 [(.t 89)]),oP 5 (mT 90)] (.seq (sqF [oP 91 (mT 0),oP 92 (.hcall 99 [(.t 91)]),oP 93 (.bin 0 .neq (.t 92) (cI 3)),oP 94 (mT 93),oG 95 94 false 0 (mT 5),oG 96 94 false 0 (.bin 4 .neq (.t 95) (.c (.str (bs [115,117,99])))),oG 97 94 false 0 (mT 96),oG 98 97 true 0 (mT 5),oG 99 97 true 0 (.bin 4 .neq (.t 98) (.c (.str (bs [109,97,120])))),oG 100 94 false 0 (.pick (.t 97) (.t 99) (cB false)),oP 101 (.pick (.t 94) (cB true) (.t 100))] (.cond (.t 101) (sqF [oP 102 (mT 0),oP 103 (mT 0),oP 104 (nkT 103),oP 105 (fdT 1 104),oP 106 (ldT 105),oP 107 (.hcall 118 [(.t 102),(.t 106)])] (sqF [oP 2 (.mv (cI 0))] .ret)) .skip)) (sqF [oP 108 (mT 0),oP 109 (nkT 108),oP 110 (fdT 1 109),oP 111 (ldT 110),oP 112 (.bin 0 .add (.t 111) (cI 1)),oP 113 (nkT 108),oP 114 (fdT 1 113),oN (.store 1 (.t 114) (.t 112))] (sqF [oP 115 (mT 0),oP 116 (.hcall 133 [(.t 115)]),oP 4 (mT 116)] (.seq (sqF [oP 117 (mT 5),oP 118 (.bin 4 .eql (.t 117) (.c (.str (bs [115,117,99]))))] (.cond (.t 118) (rgF [oP 119 (mT 4),oP 120 (.bin 0 .add (.t 119) (cI 1)),oP 4 (mT 120)]) (rgF [oP 121 (mT 4),oP 122 (mT 0),oP 123 (.hcall 133 [(.t 122)]),oP 124 (.mnx true (.t 121) (.t 123)),oP 4 (mT 124)]))) (rgF [oP 125 (mT 0),oP 126 (.hcall 98 [(.t 125),(cI 2)])]))))))) (rgF [oP 15 (mT 0),oP 16 (mT 0),oP 17 (nkT 16),oP 18 (fdT 1 17),oP 19 (ldT 18),oP 20 (.hcall 118 [(.t 15),(.t 19)])])))))))))) (.seq (sqF [oP 127 (mT 4),oP 128 (.bin 0 .gtr (.t 127) (cI 1000))] (.cond (.t 128) (rgF [oP 129 (mT 0),oP 130 (mT 3),oP 131 (.hcall 118 [(.t 129),(.t 130)])]) .skip)) (.seq (sqF [oP 132 (mT 0),oP 133 (nkT 132),oP 134 (fdT 2 133),oP 135 (ldT 134),oP 136 (.bin 0 .geq (.t 135) (cI 0))] (.cond (.t 136) (sqF [oP 2 (.mv (cI 0))] .ret) .skip)) (sqF [oP 137 (mT 4),oP 2 (mT 137)] .ret)))))))⟩
theorem tr133:trF Tryz.prog Tryz.f133=some af133:=by kernel_rfl
attribute [go_sem] af133
def af134:AF:=⟨21,[],(.reg [oP 4 (mT 0),⟨(some 5),(.bslice 1 []),none,1,true,[]⟩,oI 6 2 (mT 0),oI 7 3 (nkT 6),oI 8 4 (fdT 5 7),⟨(some 9),(ldT 8),none,5,false,[1]⟩,oI 10 6 (mT 0),oI 11 7 (nkT 10),oI 12 8 (fdT 5 11),⟨(some 13),(ldT 12),none,9,false,[1]⟩,oI 14 10 (.len false (.t 13)),oI 15 11 (mT 1),oI 16 12 (.bin 0 .sub (.t 14) (.t 15)),⟨(some 17),(.slc 1 (.t 9) none (some (.t 16))),none,13,false,[1]⟩,oI 18 14 (.app 1 16 (.t 5) (.t 17)),oI 19 15 (nkT 4),oI 20 16 (fdT 5 19),oJ 17 (.store 1 (.t 20) (.t 18))] true)⟩
theorem tr134:trF Tryz.prog Tryz.f134=some af134:=by kernel_rfl
attribute [go_sem] af134
def af142:AF:=⟨2,[(.t 0)],(sqF [oP 0 (.mv (.c .nils))] (sqF [oP 1 (.bslice 1 [(.c (.str (bs [117,105,112]))),(.c (.str (bs [102,117,110,101,120,116]))),(.c (.str (bs [115,121,109]))),(.c (.str (bs [116,114,97,110,115]))),(.c (.str (bs [116,114]))),(.c (.str (bs [104,101,116]))),(.c (.str (bs [116,121,112]))),(.c (.str (bs [116,114,104]))),(.c (.str (bs [104,112]))),(.c (.str (bs [104,50,101]))),(.c (.str (bs [101,50,104]))),(.c (.str (bs [114,112]))),(.c (.str (bs [99,112,105]))),(.c (.str (bs [99,115,105,103]))),(.c (.str (bs [99,108,97,109]))),(.c (.str (bs [99,97,112,112]))),(.c (.str (bs [99,112,97,105,114]))),(.c (.str (bs [99,102,115,116]))),(.c (.str (bs [99,115,110,100]))),(.c (.str (bs [99,101,113]))),(.c (.str (bs [99,114,101,102,108])))]),oP 0 (mT 1)] .ret))⟩
theorem tr142:trF Tryz.prog Tryz.f142=some af142:=by kernel_rfl
attribute [go_sem] af142
def prR (L:List Tok) (k:Nat) (nm:SV) (i j:Nat):List SV:=[.dsl 3 (L.map El),.int .i64 k,.int .i64 (-1),.int .i64 i,.int .i64 j,nm]
section
variable {L:List Tok} {k i j:Nat} {nm:SV} {G:List (List SV)} {t:Tok} {r:List Tok}
theorem Ka (h:L.drop k=t::r) (hL:L.length<1000000000000):Ad 99 (prR L k nm i j::G) [.gp 0 0] (.ret (.int .i64 t.k)) (prR L k nm i j::G):=by
 obtain⟨a1,a2,a3,a4,a5,a6,a7,a8,a9,a10⟩:=Dd h
 have a10:=a10 hL
 refine Aq mixed Tryz.func99 tr99 ?_
 unfold prR
 simp only [go_sem,seval,a1,a2,a3,a4,a8,a9,a10,forall_const,q_g]
theorem Qq (h:L.drop k=t::r) (hL:L.length<1000000000000):Ad 119 (prR L k nm i j::G) [.gp 0 0] (.ret (.str (bs t.w))) (prR L k nm i j::G):=by
 obtain⟨a1,a2,a3,a4,a5,a6,a7,a8,a9,a10⟩:=Dd h
 have a10:=a10 hL
 refine Aq mixed Tryz.func119 tr119 ?_
 unfold prR
 simp only [go_sem,seval,a1,a2,a3,a4,a8,a9,a10,forall_const,q_g]
theorem Awf (h:L.drop k=t::r) (hL:L.length<1000000000000):Ad 98 (prR L k nm i j::G) [.gp 0 0,.int .i64 t.k] (.ret (.str (bs t.w))) (prR L (k+1) nm i j::G):=by
 obtain⟨a1,a2,a3,a4,a5,a6,a7,a8,a9,a10⟩:=Dd h
 have a6:=a6 hL
 have hk:=Ka (i:=i) (j:=j) (nm:=nm) (G:=G) h hL
 have hw:=Qq (i:=i) (j:=j) (nm:=nm) (G:=G) h hL
 refine Aq mixed Tryz.func98 tr98 ?_
 unfold prR at hk hw ⊢
 simp only [go_sem,seval]
 refine Ac hk ?_
 simp only [go_sem,seval,Aht]
 refine Ac hw ?_
 simp only [go_sem,seval,a6]
theorem Dz {c:Int} (h:L.drop k=t::r) (hL:L.length<1000000000000) (hc:(t.k:Int)=c):Ad 98 (prR L k nm i j::G) [.gp 0 0,.int .i64 c] (.ret (.str (bs t.w))) (prR L (k+1) nm i j::G):=hc ▸ Awf h hL
theorem w8 {le:LE} (h:L.drop k=t::r) (hL:L.length<1000000000000) (hi:i<1000) (hj:j<1000) (hle:Im t=some le) :
  Ad 133 (prR L k nm i j::G) [.gp 0 0] (.ret (.int .i64 (le.ev i j))) (prR L (k+1) nm i j::G):=by
 obtain⟨a1,a2,a3,a4,a5,a6,a7,a8,a9,a10⟩:=Dd h
 have a6:=a6 hL
 have hk:=Ka (i:=i) (j:=j) (nm:=nm) (G:=G) h hL
 have hw:=Qq (i:=i) (j:=j) (nm:=nm) (G:=G) h hL
 rcases Adu hle with⟨h1,h2,rfl⟩|⟨h1,h2,rfl⟩|⟨h1,h2,rfl⟩
 ·rw [h1] at hk
  rw [h2] at hw
  refine Aq mixed Tryz.func133 tr133 ?_
  unfold prR at hk hw ⊢
  simp only [go_sem,seval]
  refine Ac hk ?_
  simp only [go_sem,seval]
  refine Ac hw ?_
  simp only [go_sem,seval]
  refine Aa Xr ?_
  simp only [go_sem,seval,a6,LE.ev]
 ·rw [h1] at hk
  rw [h2] at hw
  have i1:¬(i:Int) > 1000:=by omega
  have i2:¬1000<(i:Int):=by omega
  refine Aq mixed Tryz.func133 tr133 ?_
  unfold prR at hk hw ⊢
  simp only [go_sem,seval]
  refine Ac hk ?_
  simp only [go_sem,seval]
  refine Ac hk ?_
  simp only [go_sem,seval]
  refine Ac hw ?_
  simp only [go_sem,seval,b105,a6,LE.ev,i1,i2]
 ·rw [h1] at hk
  rw [h2] at hw
  have i1:¬(j:Int) > 1000:=by omega
  have i2:¬1000<(j:Int):=by omega
  refine Aq mixed Tryz.func133 tr133 ?_
  unfold prR at hk hw ⊢
  simp only [go_sem,seval]
  refine Ac hk ?_
  simp only [go_sem,seval]
  refine Ac hk ?_
  simp only [go_sem,seval]
  refine Ac hw ?_
  simp only [go_sem,seval,b106]
  refine Ac hk ?_
  simp only [go_sem,seval]
  refine Ac hw ?_
  simp only [go_sem,seval,b1066,a6,LE.ev,i1,i2]
theorem bneq {a b:By} {z:Bool} (h:(a==b)=z):(a != b)=!z:=by simp [bne,h]
theorem Ag9 {u x z:Tok} {le:LE} (h:L.drop k=t::u::x::z::r) (hL:L.length<1000000000000) (hi:i<1000) (hj:j<1000) (hk:t.k=1) (huk:u.k=3) (hw:u.w=[115,117,99]) (hle:Im x=some le) (hz:z.k=2) (hb:le.ev i j<1000) :
  Ad 133 (prR L k nm i j::G) [.gp 0 0] (.ret (.int .i64 ((le.ev i j+1:Nat):Int))) (prR L (k+1+1+1+1) nm i j::G):=by
 have d1:=Ar h
 have d2:=Ar d1
 have d3:=Ar d2
 obtain⟨a1,a2,a3,a4,a5,a6,a7,a8,a9,a10⟩:=Dd h
 have a6:=a6 hL
 obtain⟨b1,b2,b3,b4,b5,b6,b7,b8,b9,b10⟩:=Dd d1
 have b6:=b6 hL
 have c1:=Ka (i:=i) (j:=j) (nm:=nm) (G:=G) h hL
 have c2:=Qq (i:=i) (j:=j) (nm:=nm) (G:=G) d1 hL
 have c3:=Ka (i:=i) (j:=j) (nm:=nm) (G:=G) d1 hL
 have c4:=w8 (nm:=nm) (G:=G) d2 hL hi hj hle
 have c5:=Dz (i:=i) (j:=j) (nm:=nm) (G:=G) (c:=2) d3 hL (by omega)
 rw [hk] at c1
 rw [hw] at c2
 rw [huk] at c3
 have i1:¬(le.ev i j:Int)+1 > 1000:=by omega
 have i2:¬1000<(le.ev i j:Int)+1:=by omega
 have e1:((le.ev i j+1:Nat):Int)=(le.ev i j:Int)+1:=rfl
 have s1:=bneq bsuc
 rw [e1]
 refine Aq mixed Tryz.func133 tr133 ?_
 unfold prR at c1 c2 c3 c4 c5 ⊢
 simp only [go_sem,seval]
 refine Ac c1 ?_
 simp only [go_sem,seval]
 refine Ac c1 ?_
 simp only [go_sem,seval]
 refine Ac c1 ?_
 simp only [go_sem,seval]
 refine Ac c1 ?_
 simp only [go_sem,seval,a6]
 refine Ac c2 ?_
 simp only [go_sem,seval]
 refine Ac c3 ?_
 simp only [go_sem,seval,s1,b6]
 refine Ac c4 ?_
 simp only [go_sem,seval,bsuc,w64 (show fit ((le.ev i j:Int)+1) by unfold fit;omega)]
 refine Ac c5 ?_
 simp only [go_sem,seval,i1,i2]
theorem Bcl {u x y z:Tok} {le lf:LE} (h:L.drop k=t::u::x::y::z::r) (hL:L.length<1000000000000) (hi:i<1000) (hj:j<1000) (hk:t.k=1) (huk:u.k=3) (hw:u.w=[109,97,120]) (hle:Im x=some le) (hlf:Im y=some lf) (hz:z.k=2) (hb:le.ev i j<1000) (Eh:lf.ev i j<1000) :
  Ad 133 (prR L k nm i j::G) [.gp 0 0] (.ret (.int .i64 ((max (le.ev i j) (lf.ev i j):Nat):Int))) (prR L (k+1+1+1+1+1) nm i j::G):=by
 have d1:=Ar h
 have d2:=Ar d1
 have d3:=Ar d2
 have d4:=Ar d3
 obtain⟨a1,a2,a3,a4,a5,a6,a7,a8,a9,a10⟩:=Dd h
 have a6:=a6 hL
 obtain⟨b1,b2,b3,b4,b5,b6,b7,b8,b9,b10⟩:=Dd d1
 have b6:=b6 hL
 have c1:=Ka (i:=i) (j:=j) (nm:=nm) (G:=G) h hL
 have c2:=Qq (i:=i) (j:=j) (nm:=nm) (G:=G) d1 hL
 have c3:=Ka (i:=i) (j:=j) (nm:=nm) (G:=G) d1 hL
 have c4:=w8 (nm:=nm) (G:=G) d2 hL hi hj hle
 have c4':=w8 (nm:=nm) (G:=G) d3 hL hi hj hlf
 have c5:=Dz (i:=i) (j:=j) (nm:=nm) (G:=G) (c:=2) d4 hL (by omega)
 rw [hk] at c1
 rw [hw] at c2
 rw [huk] at c3
 have s1:=bneq bmax
 have s2:=bneq bmax2
 obtain⟨M,hM⟩:∃M,M=max (le.ev i j) (lf.ev i j):=⟨_,rfl⟩
 rw [←hM]
 have hmx:(if (le.ev i j:Int)<(lf.ev i j:Int) then (lf.ev i j:Int) else (le.ev i j:Int))=(M:Int):=by split<;>omega
 have i1:¬(M:Int) > 1000:=by omega
 have i2:¬1000<(M:Int):=by omega
 refine Aq mixed Tryz.func133 tr133 ?_
 unfold prR at c1 c2 c3 c4 c4' c5 ⊢
 simp only [go_sem,seval]
 refine Ac c1 ?_
 simp only [go_sem,seval]
 refine Ac c1 ?_
 simp only [go_sem,seval]
 refine Ac c1 ?_
 simp only [go_sem,seval]
 refine Ac c1 ?_
 simp only [go_sem,seval,a6]
 refine Ac c2 ?_
 simp only [go_sem,seval]
 refine Ac c3 ?_
 simp only [go_sem,seval,s1,s2,bmax,bmax2,b6]
 refine Ac c4 ?_
 simp only [go_sem,seval,bmax]
 refine Ac c4' ?_
 simp only [go_sem,seval]
 refine Ac c5 ?_
 simp only [go_sem,seval,hmx,i1,i2]
theorem v7 {le:LE} {t:Tok} (h:Im t=some le) (hi:i<1000) (hj:j<1000):le.ev i j<1000:=by
 rcases Adu h with⟨_,_,rfl⟩|⟨_,_,rfl⟩|⟨_,_,rfl⟩
 ·exact (by decide:0<1000)
 ·exact hi
 ·exact hj
theorem Add {ts:List Tok} {le:LE} (h:L.drop k=ts) (hL:L.length<1000000000000) (hi:i<1000) (hj:j<1000) (hle:Nz ts=some (le,r)) :
  ∃k',L.drop k'=r∧Ad 133 (prR L k nm i j::G) [.gp 0 0] (.ret (.int .i64 (le.ev i j))) (prR L k' nm i j::G):=by
 cases ts with
 |nil=>cases hle
 |cons t ts=>
 unfold Nz at hle
 dsimp only at hle
 have Nk:=Ar h
 split at hle
 ·rename_i hk
  match ts,hle with
  |[],hle=>cases hle
  |[u],hle=>cases hle
  |u::x::r1,hle=>
   dsimp only at hle
   split at hle
   ·rename_i hu
    split at hle
    ·rename_i hs
     have hs:u.w=[115,117,99]:=by simpa using hs
     split at hle
     ·rename_i hx
      obtain⟨z,Cd,Dn,Nl⟩:=Nv hle
      subst Nl Cd
      exact⟨_,Ar (Ar (Ar Nk)),Ag9 h hL hi hj hk hu hs hx Dn (v7 hx hi hj)⟩
     ·rename_i hx
      obtain⟨z,Cd,Dn,Nl⟩:=Nv hle
      subst Nl Cd
      exact⟨_,Ar (Ar (Ar Nk)),Ag9 h hL hi hj hk hu hs hx Dn (v7 hx hi hj)⟩
     ·cases hle
    ·split at hle
     ·rename_i hs
      have hs:u.w=[109,97,120]:=by simpa using hs
      match r1,hle with
      |[],hle=>cases hle
      |y::r2,hle=>
       dsimp only at hle
       split at hle
       ·rename_i hx hy
        obtain⟨z,Cd,Dn,Nl⟩:=Nv hle
        subst Nl Cd
        exact⟨_,Ar (Ar (Ar (Ar Nk))),Bcl h hL hi hj hk hu hs hx hy Dn (v7 hx hi hj) (v7 hy hi hj)⟩
       ·cases hle
     ·cases hle
   ·cases hle
 ·cases ha:Im t with
  |none=>rw [ha] at hle;cases hle
  |some le'=>
   rw [ha] at hle
   simp only [Option.map_some,q_b,Prod.mk.injEq] at hle
   obtain⟨rfl,rfl⟩:=hle
   exact⟨_,Nk,w8 h hL hi hj ha⟩
end
end Go.Proofs.YtdpigpopcbjkmaaGreatDoor.Abs
