import Derived.Test.YtdpigpopcbjkmaaGreatDoorWTk
import Derived.Test.YtdpigpopcbjkmaaGreatDoorWTh
import Derived.Test.YtdpigpopcbjkmaaGreatDoorWPi
set_option linter.unusedSimpArgs false
set_option linter.unusedVariables false
set_option maxRecDepth 20000
set_option maxHeartbeats 4000000
namespace Go.Proofs.YtdpigpopcbjkmaaGreatDoor.Abs
open Go Go.RowKit Go.Proofs.YtdpigpopcbjkmaaGreatDoor
section
variable {L:List Tok} {k i j:Nat} {G:List (List SV)}
theorem Bcd {ws:List (List SV)} (hw:ws.length≤100) :
  Ad 101 (prR L k .nils i j::G) [.gp 0 0,.dsl 1 ws] (.ret (.tup [])) (prR L k (.dsl 1 ws) i j::G):=by
 have e1:ws.length*16≤140737488355328:=by omega
 have e2:ws.length≤140737488355328:=by omega
 have e3:ws.take ws.length=ws:=List.take_of_length_le (by simp)
 refine Aq mixed Tryz.func101 tr101 ?_
 unfold prR
 simp only [go_sem,seval,e1,e2,e3]
theorem Azu {R ws:List (List SV)} (hw:ws.length≤100) (hR:R.length≤1000000) :
  Ad 101 (prR L k (.dsl 1 R) i j::G) [.gp 0 0,.dsl 1 ws] (.ret (.tup [])) (prR L k (.dsl 1 (R++ws)) i j::G):=by
 have e1:(R.length+ws.length)*16≤140737488355328:=by omega
 have e2:R.length+ws.length≤140737488355328:=by omega
 have e3:(R++ws).take (R.length+ws.length)=R++ws:=List.take_of_length_le (by simp)
 have e4:R.length*16≤140737488355328:=by omega
 have e5:R.length≤140737488355328:=by omega
 refine Aq mixed Tryz.func101 tr101 ?_
 unfold prR
 simp only [go_sem,seval,e1,e2,e3,e4,e5]
theorem Bdd {R ws:List (List SV)} (hw:ws.length≤100) (hR:R.length≤1000000) :
  Ad 134 (prR L k (.dsl 1 (R++ws)) i j::G) [.gp 0 0,.int .i64 ws.length] (.ret (.tup [])) (prR L k (.dsl 1 R) i j::G):=by
 have e4:R.length*16≤140737488355328:=by omega
 have e5:R.length≤140737488355328:=by omega
 have e6:IntKind.i64.wrap (((R.length+ws.length:Nat):Int)-(ws.length:Int))=(R.length:Int):=by rw [w64 (by unfold fit;omega)];omega
 have e7:(R++ws).take R.length=R:=by simp
 refine Aq mixed Tryz.func134 tr134 ?_
 unfold prR
 simp only [go_sem,seval,e4,e5,e6,e7,Int.toNat_natCast,List.take_length]
 exact⟨by omega,by omega⟩
theorem A3x:Con 142 [] (.dsl 1 (symsL.map wdR)):=by
 refine Al mixed Tryz.func142 tr142 ?_
 simp only [go_sem,seval,symsL,q_h,q_i,wdR]
theorem A1y {w:By} {n:Nat} (h:Jq w symsL=some n):Con 132 [.str (bs w)] (.int .i64 ((n+1:Nat):Int)):=by
 obtain⟨h1,h2⟩:=Sh h
 have Aj:symsL.length=21:=rfl
 have hn:=(List.getElem?_eq_some_iff.1 h1).1
 refine Al mixed Tryz.func132 tr132 ?_
 simp only [go_sem,seval]
 refine Aa A3x ?_
 have Br:∀(m:Nat) v,symsL[m]?=some v→(symsL.map wdR)[m]?.getD []=[.str (bs v)]:=fun m v hv=>by rw [List.getElem?_map,hv];rfl
 generalize symsL=l at *
 simp only [go_sem,seval,q_g,Aj]
 intros
 refine Ig (fun x=>⟨(.str (bs w)::.jk::.int .i64 0::.dsl 1 (l.map wdR)::.int .i64 x::.jk::.jk::.jk::.jk::.jk::.jk::.jk::.jk::.jk::.jk::.jk::.jk::.jk::.jk::.jk::[]),[]⟩) n (fun x hx=>?_) ?_
 ·have e0:(0:Int)≤(x:Int):=by omega
  have e1:(x:Int)<21:=by omega
  have e2:x<21:=by omega
  have e3:(21:Nat)≤140737488355328:=by decide
  by_cases Ab:x<n
  ·obtain⟨v,h3,h4⟩:=h2 x Ab
   simp only [go_sem,seval,decide_eq_true e1,e0,e1,e2,e3,forall_const,q_g,Aj,Br x v h3,h4,w64 (show fit ((x:Int)+1) by unfold fit;omega)]
   refine⟨Ab,?_⟩
   exact As (by simp [Ao])
  ·have:x=n:=by omega
   subst this
   simp only [go_sem,seval,decide_eq_true e1,e0,e1,e2,e3,forall_const,q_g,Aj,Br x w h1,beq_self_eq_true,w64 (show fit ((x:Int)+1) by unfold fit;omega)]
   rfl
 ·exact As (by simp [Ao])
def markL:List By:=[[115,111,114,116],[],[112,105],[108,97,109],[97,112,112],[115,105,103],[112,97,105,114],[102,115,116],[115,110,100],[101,113],[114,101,102,108],[116,114]]
def plainL:List By:=[[80,105],[76,97,109],[65,112,112],[83,105,103],[80,97,105,114],[70,115,116],[83,110,100],[69,113],[82,101,102,108],[74],[117,115,101]]
theorem Agg:Con 130 [] (.dsl 1 (markL.map wdR)):=by
 refine Al mixed Tryz.func130 tr130 ?_
 simp only [go_sem,seval,markL,q_h,q_i,wdR]
theorem Avm:Con 131 [] (.dsl 1 (plainL.map wdR)):=by
 refine Al mixed Tryz.func131 tr131 ?_
 simp only [go_sem,seval,plainL,q_h,q_i,wdR]
theorem A2i {nm:SV} {t:Tok} {r:List Tok} {want:Int} (h:L.drop k=t::r) (hL:L.length<1000000000000) (hk:t.k=3) (hw:t.w=[115,111,114,116]) :
  Ad 120 (prR L k nm i j::G) [.gp 0 0,.int .i64 want] (.ret (.int .i64 1)) (prR L k nm i j::G):=by
 have c1:=Ka (i:=i) (j:=j) (nm:=nm) (G:=G) h hL
 have c2:=Qq (i:=i) (j:=j) (nm:=nm) (G:=G) h hL
 rw [hk] at c1
 rw [hw] at c2
 have b1:(([115,111,114,116]:By)==[115,111,114,116])=true:=by decide
 refine Aq mixed Tryz.func120 tr120 ?_
 unfold prR at c1 c2 ⊢
 simp only [go_sem,seval]
 refine Ac c1 ?_
 simp only [go_sem,seval]
 refine Aa Agg ?_
 simp only [go_sem,seval,markL,q_h,q_i,wdR]
 refine Cf 1 (Ak ?_)
 simp only [go_sem,seval]
 refine Ac c2 ?_
 cases hw2:(want != 2)<;>simp only [go_sem,seval,b1,hw2]
theorem Ml {nm:SV} {t:Tok} {r:List Tok} {want:Int} {n:Nat} (h:L.drop k=t::r) (hL:L.length<1000000000000) (hk:t.k=3) (hn:Jq t.w plainL=some n) (hm:∀v∈markL,(v==t.w)=false) (Wn:want=0∨want=2) :
  Ad 120 (prR L k nm i j::G) [.gp 0 0,.int .i64 want] (.ret (.int .i64 ((13+n:Nat):Int))) (prR L k nm i j::G):=by
 have c1:=Ka (i:=i) (j:=j) (nm:=nm) (G:=G) h hL
 have c2:=Qq (i:=i) (j:=j) (nm:=nm) (G:=G) h hL
 rw [hk] at c1
 obtain⟨h1,h2⟩:=Sh hn
 have Aj:plainL.length=11:=rfl
 have Abg:markL.length=12:=rfl
 have hnl:=(List.getElem?_eq_some_iff.1 h1).1
 have Br:∀(m:Nat) v,plainL[m]?=some v→(plainL.map wdR)[m]?.getD []=[.str (bs v)]:=fun m v hv=>by rw [List.getElem?_map,hv];rfl
 have hrow2:∀(m:Nat) v,markL[m]?=some v→(markL.map wdR)[m]?.getD []=[.str (bs v)]:=fun m v hv=>by rw [List.getElem?_map,hv];rfl
 have Md:∀m,m<12→∃v,markL[m]?=some v∧(v==t.w)=false:=fun m hm'=>⟨_,q_f (by omega),hm _ (List.getElem_mem _)⟩
 have Oz:(want==1)=false:=by rcases Wn with rfl|rfl<;>rfl
 have hw2:(want != 1)=true:=by rcases Wn with rfl|rfl<;>rfl
 have cm:=Agg
 have cp:=Avm
 generalize plainL=P at *
 generalize markL=Mk at *
 refine Aq mixed Tryz.func120 tr120 ?_
 unfold prR at c1 c2 ⊢
 simp only [go_sem,seval]
 refine Ac c1 ?_
 simp only [go_sem,seval]
 refine Aa cm ?_
 simp only [go_sem,seval]
 have e3:(12:Nat)≤140737488355328:=by decide
 have e3':(11:Nat)≤140737488355328:=by decide
 refine Ig (fun x=>⟨(.gp 0 0::.int .i64 want::.jk::.jk::.int .i64 0::.dsl 1 (Mk.map wdR)::.int .i64 x::.jk::.jk::.jk::.jk::.jk::.jk::.jk::.jk::.jk::.jk::.jk::.jk::.jk::.jk::.jk::.jk::.jk::.jk::.jk::.jk::.jk::.jk::.jk::.jk::.jk::.jk::.jk::.jk::.jk::.jk::.jk::.jk::.jk::.jk::.jk::.jk::.jk::.jk::.jk::.jk::.jk::.jk::.jk::.jk::.jk::.jk::.jk::.jk::[]),[gOb ([.dsl 3 (L.map El),.int .i64 k,.int .i64 (-1),.int .i64 i,.int .i64 j,nm]::G)]⟩) 12 (fun x hx=>?_) ?_
 ·by_cases Ab:x<12
  ·have e0:(0:Int)≤(x:Int):=by omega
   have e1:(x:Int)<12:=by omega
   have e2:x<12:=by omega
   obtain⟨v,h3,h4⟩:=Md x Ab
   simp only [go_sem,seval,decide_eq_true e1,e0,e1,e2,e3,forall_const,q_g,Abg,hrow2 x v h3]
   refine Ac c2 ?_
   simp only [go_sem,seval,h4,w64 (show fit ((x:Int)+1) by unfold fit;omega)]
   refine⟨Ab,?_⟩
   exact As (by simp [Ao])
  ·have:x=12:=by omega
   subst this
   simp only [go_sem,seval,q_g,Abg,e3,forall_const]
   refine Aa cp ?_
   simp only [go_sem,seval]
   refine Ig (fun x=>⟨(.gp 0 0::.int .i64 want::.jk::.jk::.int .i64 0::.dsl 1 (P.map wdR)::.jk::.int .i64 x::.jk::.jk::.jk::.jk::.jk::.jk::.jk::.jk::.jk::.jk::.jk::.jk::.jk::.jk::.jk::.jk::.jk::.jk::.jk::.jk::.jk::.jk::.jk::.jk::.jk::.jk::.jk::.jk::.jk::.jk::.jk::.jk::.jk::.jk::.jk::.jk::.jk::.jk::.jk::.jk::.jk::.jk::.jk::.jk::.jk::.jk::.jk::[]),[gOb ([.dsl 3 (L.map El),.int .i64 k,.int .i64 (-1),.int .i64 i,.int .i64 j,nm]::G)]⟩) n (fun x hx=>?_) ?_
   ·have e0:(0:Int)≤(x:Int):=by omega
    have e1:(x:Int)<11:=by omega
    have e2:x<11:=by omega
    by_cases Ab:x<n
    ·obtain⟨v,h3,h4⟩:=h2 x Ab
     simp only [go_sem,seval,decide_eq_true e1,e0,e1,e2,e3',forall_const,q_g,Aj,Br x v h3]
     refine Ac c2 ?_
     simp only [go_sem,seval,h4,w64 (show fit ((x:Int)+1) by unfold fit;omega)]
     refine⟨Ab,?_⟩
     exact As (by simp [Ao])
    ·have:x=n:=by omega
     subst this
     simp only [go_sem,seval,decide_eq_true e1,e0,e1,e2,e3',forall_const,q_g,Aj,Br x t.w h1]
     refine Ac c2 ?_
     simp only [go_sem,seval,beq_self_eq_true,Oz,hw2,w64 (show fit (13+(x:Int)) by unfold fit;omega)]
     rfl
   ·exact As (by simp [Ao])
 ·exact As (by simp [Ao])
end
def TP (T:TF) (b:Nat):Prop:=∀(ns:List By) (ts r:List Tok) (lt:LT),T ns ts=some (lt,r)→ns.length+b<1000000→∀(L:List Tok) (k i j:Nat) (nm:SV) (G:List (List SV)) (want:Int),L.length<1000000000000→i<1000→j<1000→(want=0∨want=2)→NmP nm ns→L.drop k=ts →
 ∃k' nm',L.drop k'=r∧NmP nm' ns∧Ad 100 (prR L k nm i j::G) [.gp 0 0,.int .i64 want] (.ret (.agg true (tv (lt.tm i j)))) (prR L k' nm' i j::G)
def BP (k:Nat) (L:List Tok) (k0 i j:Nat) (nm:SV) (ns:List By) (G:List (List SV)) (lt:LT) (r:List Tok):Prop:=
 ∃k' nm',L.drop k'=r∧NmP nm' ns∧Ad 121 (prR L k0 nm i j::G) [.gp 0 0,.int .i64 k] (.ret (.agg true (tv (lt.tm i j)))) (prR L k' nm' i j::G)
theorem Vc {L:List Tok} {k i j:Nat} {nm:SV} {G:List (List SV)} {ns ws:List By} (h:NmP nm ns) (hw:ws.length≤100) (hn:ns.length≤1000000) :
  Ad 101 (prR L k nm i j::G) [.gp 0 0,.dsl 1 (ws.map wdR)] (.ret (.tup [])) (prR L k (nmV (ws.reverse++ns)) i j::G):=by
 rcases h with⟨rfl,rfl⟩|rfl
 ·rw [show nmV (ws.reverse++[])=.dsl 1 (ws.map wdR) by simp [nmV]]
  exact Bcd (by simpa using hw)
 ·rw [show nmV (ws.reverse++ns)=.dsl 1 (ns.reverse.map wdR++ws.map wdR) by simp [nmV]]
  exact Azu (by simpa using hw) (by simpa using hn)
theorem Xh {L:List Tok} {k i j:Nat} {G:List (List SV)} {ns ws:List By} (hw:ws.length≤100) (hn:ns.length≤1000000) :
  Ad 134 (prR L k (nmV (ws.reverse++ns)) i j::G) [.gp 0 0,.int .i64 ws.length] (.ret (.tup [])) (prR L k (nmV ns) i j::G):=by
 rw [show nmV (ws.reverse++ns)=.dsl 1 (ns.reverse.map wdR++ws.map wdR) by simp [nmV]]
 have:=Bdd (L:=L) (k:=k) (i:=i) (j:=j) (G:=G) (R:=ns.reverse.map wdR) (ws:=ws.map wdR) (by simpa using hw) (by simpa using hn)
 rwa [q_g] at this
theorem NmP.ne {nm:SV} {ns:List By} {v:By} (h:NmP nm (v::ns)):nm=nmV (v::ns):=by
 rcases h with⟨_,h⟩|h
 ·cases h
 ·exact h
theorem wp7:IntKind.i64.wrap 7=7:=rfl
theorem wp8:IntKind.i64.wrap 8=8:=rfl
section
variable {T:TF} {b:Nat} {ns:List By} {k0 i j:Nat} {L ts r:List Tok} {nm:SV} {G:List (List SV)} {lt:LT}
theorem A4g (hT:TP T b) (Dr:ns.length+2+b<1000000) (hL:L.length<1000000000000) (hi:i<1000) (hj:j<1000) (hnm:NmP nm ns) (hd:L.drop k0=ts) (h:Er T ns 18 [116] {} ts=some (lt,r)):BP 18 L k0 i j nm ns G lt r:=by
 obtain⟨y0,r0,h0,h⟩:=Bn h
 obtain⟨a0,t0,rfl⟩:=Di h0
 obtain⟨z,r',rfl,hz,Ab⟩:=Gw h
 cases Ab
 have b1:Con 65 [.int .i64 18,.int .i64 1] (.int .i64 0):=Cm 18 1
 have kk:Con 62 [.int .i64 18,.int .i64 0] (.int .i64 1):=Kb 18 0
 have bb0:Con 65 [.int .i64 18,.int .i64 0] (.int .i64 0):=Cm 18 0
 obtain⟨q0,nm0,d0,m0,c0⟩:=hT ns _ _ a0 t0 (by omega) L _ i j nm G 2 hL hi hj (.inr rfl) hnm hd
 have z0:=Ag (a0.tm i j)
 have ce:=Dz (i:=i) (j:=j) (nm:=nm0) (G:=G) (c:=2) d0 hL (by omega)
 refine⟨_,nm0,Ar d0,m0,?_⟩
 have eT:LT.tm i j (.nd 18 .z .z 0 [a0])=.mk 18 0 0 0 [a0.tm i j]:=by simp [LT.tm,LT.tms,LE.ev]
 change Ad _ _ _ (.ret (.agg true (tv (LT.tm i j (.nd 18 .z .z 0 [a0]))))) _
 rw [eT,Am]
 simp only [q_h,q_i]
 unfold prR at c0 ce ⊢
 refine Aq mixed Tryz.func121 tr121 ?_
 simp only [go_sem,seval,wp7,wp8,z0]
 refine Aa b1 ?_
 simp only [go_sem,seval,wp7,wp8,z0]
 refine Cf 2 (Ak ?_)
 simp only [go_sem,seval,wp7,wp8,z0]
 refine Aa kk ?_
 simp only [go_sem,seval,wp7,wp8,z0]
 refine Aa bb0 ?_
 simp only [go_sem,seval,wp7,wp8,z0]
 refine Ac c0 ?_
 simp only [go_sem,seval,wp7,wp8,z0]
 refine Ak ?_
 simp only [go_sem,seval,wp7,wp8,z0]
 refine Aa kk ?_
 simp only [go_sem,seval,wp7,wp8,z0]
 refine Ac ce ?_
 simp only [go_sem,seval,wp7,wp8,z0]
theorem Atv (hT:TP T b) (Dr:ns.length+2+b<1000000) (hL:L.length<1000000000000) (hi:i<1000) (hj:j<1000) (hnm:NmP nm ns) (hd:L.drop k0=ts) (h:Er T ns 19 [116] {} ts=some (lt,r)):BP 19 L k0 i j nm ns G lt r:=by
 obtain⟨y0,r0,h0,h⟩:=Bn h
 obtain⟨a0,t0,rfl⟩:=Di h0
 obtain⟨z,r',rfl,hz,Ab⟩:=Gw h
 cases Ab
 have b1:Con 65 [.int .i64 19,.int .i64 1] (.int .i64 0):=Cm 19 1
 have kk:Con 62 [.int .i64 19,.int .i64 0] (.int .i64 1):=Kb 19 0
 have bb0:Con 65 [.int .i64 19,.int .i64 0] (.int .i64 0):=Cm 19 0
 obtain⟨q0,nm0,d0,m0,c0⟩:=hT ns _ _ a0 t0 (by omega) L _ i j nm G 2 hL hi hj (.inr rfl) hnm hd
 have z0:=Ag (a0.tm i j)
 have ce:=Dz (i:=i) (j:=j) (nm:=nm0) (G:=G) (c:=2) d0 hL (by omega)
 refine⟨_,nm0,Ar d0,m0,?_⟩
 have eT:LT.tm i j (.nd 19 .z .z 0 [a0])=.mk 19 0 0 0 [a0.tm i j]:=by simp [LT.tm,LT.tms,LE.ev]
 change Ad _ _ _ (.ret (.agg true (tv (LT.tm i j (.nd 19 .z .z 0 [a0]))))) _
 rw [eT,Am]
 simp only [q_h,q_i]
 unfold prR at c0 ce ⊢
 refine Aq mixed Tryz.func121 tr121 ?_
 simp only [go_sem,seval,wp7,wp8,z0]
 refine Aa b1 ?_
 simp only [go_sem,seval,wp7,wp8,z0]
 refine Cf 2 (Ak ?_)
 simp only [go_sem,seval,wp7,wp8,z0]
 refine Aa kk ?_
 simp only [go_sem,seval,wp7,wp8,z0]
 refine Aa bb0 ?_
 simp only [go_sem,seval,wp7,wp8,z0]
 refine Ac c0 ?_
 simp only [go_sem,seval,wp7,wp8,z0]
 refine Ak ?_
 simp only [go_sem,seval,wp7,wp8,z0]
 refine Aa kk ?_
 simp only [go_sem,seval,wp7,wp8,z0]
 refine Ac ce ?_
 simp only [go_sem,seval,wp7,wp8,z0]
theorem Bee (hT:TP T b) (Dr:ns.length+2+b<1000000) (hL:L.length<1000000000000) (hi:i<1000) (hj:j<1000) (hnm:NmP nm ns) (hd:L.drop k0=ts) (h:Er T ns 15 [116,116] {} ts=some (lt,r)):BP 15 L k0 i j nm ns G lt r:=by
 obtain⟨y0,r0,h0,h⟩:=Bn h
 obtain⟨a0,t0,rfl⟩:=Di h0
 obtain⟨y1,r1,h1,h⟩:=Bn h
 obtain⟨a1,t1,rfl⟩:=Di h1
 obtain⟨z,r',rfl,hz,Ab⟩:=Gw h
 cases Ab
 have b1:Con 65 [.int .i64 15,.int .i64 1] (.int .i64 0):=Cm 15 1
 have kk:Con 62 [.int .i64 15,.int .i64 0] (.int .i64 2):=Kb 15 0
 have bb0:Con 65 [.int .i64 15,.int .i64 0] (.int .i64 0):=Cm 15 0
 obtain⟨q0,nm0,d0,m0,c0⟩:=hT ns _ _ a0 t0 (by omega) L _ i j nm G 2 hL hi hj (.inr rfl) hnm hd
 have z0:=Ag (a0.tm i j)
 have bb1:Con 65 [.int .i64 15,.int .i64 1] (.int .i64 0):=Cm 15 1
 obtain⟨q1,nm1,d1,m1,c1⟩:=hT ns _ _ a1 t1 (by omega) L _ i j nm0 G 2 hL hi hj (.inr rfl) m0 d0
 have z1:=Ag (a1.tm i j)
 have ce:=Dz (i:=i) (j:=j) (nm:=nm1) (G:=G) (c:=2) d1 hL (by omega)
 refine⟨_,nm1,Ar d1,m1,?_⟩
 have eT:LT.tm i j (.nd 15 .z .z 0 [a0,a1])=.mk 15 0 0 0 [a0.tm i j,a1.tm i j]:=by simp [LT.tm,LT.tms,LE.ev]
 change Ad _ _ _ (.ret (.agg true (tv (LT.tm i j (.nd 15 .z .z 0 [a0,a1]))))) _
 rw [eT,Am]
 simp only [q_h,q_i]
 unfold prR at c0 c1 ce ⊢
 refine Aq mixed Tryz.func121 tr121 ?_
 simp only [go_sem,seval,wp7,wp8,z0,z1]
 refine Aa b1 ?_
 simp only [go_sem,seval,wp7,wp8,z0,z1]
 refine Cf 3 (Ak ?_)
 simp only [go_sem,seval,wp7,wp8,z0,z1]
 refine Aa kk ?_
 simp only [go_sem,seval,wp7,wp8,z0,z1]
 refine Aa bb0 ?_
 simp only [go_sem,seval,wp7,wp8,z0,z1]
 refine Ac c0 ?_
 simp only [go_sem,seval,wp7,wp8,z0,z1]
 refine Ak ?_
 simp only [go_sem,seval,wp7,wp8,z0,z1]
 refine Aa kk ?_
 simp only [go_sem,seval,wp7,wp8,z0,z1]
 refine Aa bb1 ?_
 simp only [go_sem,seval,wp7,wp8,z0,z1]
 refine Ac c1 ?_
 simp only [go_sem,seval,wp7,wp8,z0,z1]
 refine Ak ?_
 simp only [go_sem,seval,wp7,wp8,z0,z1]
 refine Aa kk ?_
 simp only [go_sem,seval,wp7,wp8,z0,z1]
 refine Ac ce ?_
 simp only [go_sem,seval,wp7,wp8,z0,z1]
theorem Beo (hT:TP T b) (Dr:ns.length+2+b<1000000) (hL:L.length<1000000000000) (hi:i<1000) (hj:j<1000) (hnm:NmP nm ns) (hd:L.drop k0=ts) (h:Er T ns 21 [116,116] {} ts=some (lt,r)):BP 21 L k0 i j nm ns G lt r:=by
 obtain⟨y0,r0,h0,h⟩:=Bn h
 obtain⟨a0,t0,rfl⟩:=Di h0
 obtain⟨y1,r1,h1,h⟩:=Bn h
 obtain⟨a1,t1,rfl⟩:=Di h1
 obtain⟨z,r',rfl,hz,Ab⟩:=Gw h
 cases Ab
 have b1:Con 65 [.int .i64 21,.int .i64 1] (.int .i64 0):=Cm 21 1
 have kk:Con 62 [.int .i64 21,.int .i64 0] (.int .i64 2):=Kb 21 0
 have bb0:Con 65 [.int .i64 21,.int .i64 0] (.int .i64 0):=Cm 21 0
 obtain⟨q0,nm0,d0,m0,c0⟩:=hT ns _ _ a0 t0 (by omega) L _ i j nm G 2 hL hi hj (.inr rfl) hnm hd
 have z0:=Ag (a0.tm i j)
 have bb1:Con 65 [.int .i64 21,.int .i64 1] (.int .i64 0):=Cm 21 1
 obtain⟨q1,nm1,d1,m1,c1⟩:=hT ns _ _ a1 t1 (by omega) L _ i j nm0 G 2 hL hi hj (.inr rfl) m0 d0
 have z1:=Ag (a1.tm i j)
 have ce:=Dz (i:=i) (j:=j) (nm:=nm1) (G:=G) (c:=2) d1 hL (by omega)
 refine⟨_,nm1,Ar d1,m1,?_⟩
 have eT:LT.tm i j (.nd 21 .z .z 0 [a0,a1])=.mk 21 0 0 0 [a0.tm i j,a1.tm i j]:=by simp [LT.tm,LT.tms,LE.ev]
 change Ad _ _ _ (.ret (.agg true (tv (LT.tm i j (.nd 21 .z .z 0 [a0,a1]))))) _
 rw [eT,Am]
 simp only [q_h,q_i]
 unfold prR at c0 c1 ce ⊢
 refine Aq mixed Tryz.func121 tr121 ?_
 simp only [go_sem,seval,wp7,wp8,z0,z1]
 refine Aa b1 ?_
 simp only [go_sem,seval,wp7,wp8,z0,z1]
 refine Cf 3 (Ak ?_)
 simp only [go_sem,seval,wp7,wp8,z0,z1]
 refine Aa kk ?_
 simp only [go_sem,seval,wp7,wp8,z0,z1]
 refine Aa bb0 ?_
 simp only [go_sem,seval,wp7,wp8,z0,z1]
 refine Ac c0 ?_
 simp only [go_sem,seval,wp7,wp8,z0,z1]
 refine Ak ?_
 simp only [go_sem,seval,wp7,wp8,z0,z1]
 refine Aa kk ?_
 simp only [go_sem,seval,wp7,wp8,z0,z1]
 refine Aa bb1 ?_
 simp only [go_sem,seval,wp7,wp8,z0,z1]
 refine Ac c1 ?_
 simp only [go_sem,seval,wp7,wp8,z0,z1]
 refine Ak ?_
 simp only [go_sem,seval,wp7,wp8,z0,z1]
 refine Aa kk ?_
 simp only [go_sem,seval,wp7,wp8,z0,z1]
 refine Ac ce ?_
 simp only [go_sem,seval,wp7,wp8,z0,z1]
theorem Baf (hT:TP T b) (Dr:ns.length+2+b<1000000) (hL:L.length<1000000000000) (hi:i<1000) (hj:j<1000) (hnm:NmP nm ns) (hd:L.drop k0=ts) (h:Er T ns 20 [116,116,116] {} ts=some (lt,r)):BP 20 L k0 i j nm ns G lt r:=by
 obtain⟨y0,r0,h0,h⟩:=Bn h
 obtain⟨a0,t0,rfl⟩:=Di h0
 obtain⟨y1,r1,h1,h⟩:=Bn h
 obtain⟨a1,t1,rfl⟩:=Di h1
 obtain⟨y2,r2,h2,h⟩:=Bn h
 obtain⟨a2,t2,rfl⟩:=Di h2
 obtain⟨z,r',rfl,hz,Ab⟩:=Gw h
 cases Ab
 have b1:Con 65 [.int .i64 20,.int .i64 1] (.int .i64 0):=Cm 20 1
 have kk:Con 62 [.int .i64 20,.int .i64 0] (.int .i64 3):=Kb 20 0
 have bb0:Con 65 [.int .i64 20,.int .i64 0] (.int .i64 0):=Cm 20 0
 obtain⟨q0,nm0,d0,m0,c0⟩:=hT ns _ _ a0 t0 (by omega) L _ i j nm G 2 hL hi hj (.inr rfl) hnm hd
 have z0:=Ag (a0.tm i j)
 have bb1:Con 65 [.int .i64 20,.int .i64 1] (.int .i64 0):=Cm 20 1
 obtain⟨q1,nm1,d1,m1,c1⟩:=hT ns _ _ a1 t1 (by omega) L _ i j nm0 G 2 hL hi hj (.inr rfl) m0 d0
 have z1:=Ag (a1.tm i j)
 have bb2:Con 65 [.int .i64 20,.int .i64 2] (.int .i64 0):=Cm 20 2
 obtain⟨q2,nm2,d2,m2,c2⟩:=hT ns _ _ a2 t2 (by omega) L _ i j nm1 G 2 hL hi hj (.inr rfl) m1 d1
 have z2:=Ag (a2.tm i j)
 have ce:=Dz (i:=i) (j:=j) (nm:=nm2) (G:=G) (c:=2) d2 hL (by omega)
 refine⟨_,nm2,Ar d2,m2,?_⟩
 have eT:LT.tm i j (.nd 20 .z .z 0 [a0,a1,a2])=.mk 20 0 0 0 [a0.tm i j,a1.tm i j,a2.tm i j]:=by simp [LT.tm,LT.tms,LE.ev]
 change Ad _ _ _ (.ret (.agg true (tv (LT.tm i j (.nd 20 .z .z 0 [a0,a1,a2]))))) _
 rw [eT,Am]
 simp only [q_h,q_i]
 unfold prR at c0 c1 c2 ce ⊢
 refine Aq mixed Tryz.func121 tr121 ?_
 simp only [go_sem,seval,wp7,wp8,z0,z1,z2]
 refine Aa b1 ?_
 simp only [go_sem,seval,wp7,wp8,z0,z1,z2]
 refine Cf 4 (Ak ?_)
 simp only [go_sem,seval,wp7,wp8,z0,z1,z2]
 refine Aa kk ?_
 simp only [go_sem,seval,wp7,wp8,z0,z1,z2]
 refine Aa bb0 ?_
 simp only [go_sem,seval,wp7,wp8,z0,z1,z2]
 refine Ac c0 ?_
 simp only [go_sem,seval,wp7,wp8,z0,z1,z2]
 refine Ak ?_
 simp only [go_sem,seval,wp7,wp8,z0,z1,z2]
 refine Aa kk ?_
 simp only [go_sem,seval,wp7,wp8,z0,z1,z2]
 refine Aa bb1 ?_
 simp only [go_sem,seval,wp7,wp8,z0,z1,z2]
 refine Ac c1 ?_
 simp only [go_sem,seval,wp7,wp8,z0,z1,z2]
 refine Ak ?_
 simp only [go_sem,seval,wp7,wp8,z0,z1,z2]
 refine Aa kk ?_
 simp only [go_sem,seval,wp7,wp8,z0,z1,z2]
 refine Aa bb2 ?_
 simp only [go_sem,seval,wp7,wp8,z0,z1,z2]
 refine Ac c2 ?_
 simp only [go_sem,seval,wp7,wp8,z0,z1,z2]
 refine Ak ?_
 simp only [go_sem,seval,wp7,wp8,z0,z1,z2]
 refine Aa kk ?_
 simp only [go_sem,seval,wp7,wp8,z0,z1,z2]
 refine Ac ce ?_
 simp only [go_sem,seval,wp7,wp8,z0,z1,z2]
theorem Aro (hT:TP T b) (Dr:ns.length+2+b<1000000) (hL:L.length<1000000000000) (hi:i<1000) (hj:j<1000) (hnm:NmP nm ns) (hd:L.drop k0=ts) (h:Er T ns 13 [120,116,98] {} ts=some (lt,r)):BP 13 L k0 i j nm ns G lt r:=by
 obtain⟨y0,r0,h0,h⟩:=Bn h
 obtain⟨w0,rfl,kx0,rfl⟩:=Nq h0 (by simp)
 obtain⟨y1,r1,h1,h⟩:=Bn h
 obtain⟨a1,t1,rfl⟩:=Di h1
 obtain⟨y2,r2,h2,h⟩:=Bn h
 obtain⟨n2,a2,t2,rfl⟩:=Qm h2 (by simp)
 obtain⟨z,r',rfl,hz,Ab⟩:=Gw h
 cases Ab
 have b1:Con 65 [.int .i64 13,.int .i64 1] (.int .i64 1):=Cm 13 1
 have kk:Con 62 [.int .i64 13,.int .i64 0] (.int .i64 2):=Kb 13 0
 have c0:=Dz (i:=i) (j:=j) (nm:=nm) (G:=G) (c:=3) hd hL (by omega)
 have bb1:Con 65 [.int .i64 13,.int .i64 0] (.int .i64 0):=Cm 13 0
 obtain⟨q1,nm1,d1,m1,c1⟩:=hT ns _ _ a1 t1 (by omega) L _ i j nm G 2 hL hi hj (.inr rfl) hnm (Ar hd)
 have z1:=Ag (a1.tm i j)
 have bb2:Con 65 [.int .i64 13,.int .i64 1] (.int .i64 1):=Cm 13 1
 have pu:=Vc (L:=L) (k:=q1) (i:=i) (j:=j) (G:=G) (ws:=[w0.w]) m1 (by simp) (by omega)
 obtain⟨q2,nm2,d2,m2,c2⟩:=hT ([w0.w]++ns) _ _ a2 t2 (by simp;omega) L _ i j (nmV ([w0.w]++ns)) G 2 hL hi hj (.inr rfl) (.inr rfl) d1
 have z2:=Ag (a2.tm i j)
 have e2:nm2=nmV ([w0.w]++ns):=m2.ne
 subst e2
 have po:=Xh (L:=L) (k:=q2) (i:=i) (j:=j) (G:=G) (ns:=ns) (ws:=[w0.w]) (by simp) (by omega)
 simp only [List.reverse_cons,List.reverse_nil,List.nil_append,List.singleton_append,List.cons_append,q_h,q_i,wdR,List.length_cons,List.length_nil,Nat.zero_add] at pu po c2
 have Eo:NmP (nmV ns) ns:=.inr rfl
 have ce:=Dz (i:=i) (j:=j) (nm:=(nmV ns)) (G:=G) (c:=2) d2 hL (by omega)
 refine⟨_,(nmV ns),Ar d2,Eo,?_⟩
 have eT:LT.tm i j (.nd 13 .z .z 0 [a1,a2])=.mk 13 0 0 0 [a1.tm i j,a2.tm i j]:=by simp [LT.tm,LT.tms,LE.ev]
 change Ad _ _ _ (.ret (.agg true (tv (LT.tm i j (.nd 13 .z .z 0 [a1,a2]))))) _
 rw [eT,Am]
 simp only [q_h,q_i]
 unfold prR at c0 c1 pu c2 po ce ⊢
 refine Aq mixed Tryz.func121 tr121 ?_
 simp only [go_sem,seval,wp7,wp8,z1,z2]
 refine Aa b1 ?_
 simp only [go_sem,seval,wp7,wp8,z1,z2]
 refine Ac c0 ?_
 simp only [go_sem,seval,wp7,wp8,z1,z2]
 refine Cf 3 (Ak ?_)
 simp only [go_sem,seval,wp7,wp8,z1,z2]
 refine Aa kk ?_
 simp only [go_sem,seval,wp7,wp8,z1,z2]
 refine Aa bb1 ?_
 simp only [go_sem,seval,wp7,wp8,z1,z2]
 refine Ac c1 ?_
 simp only [go_sem,seval,wp7,wp8,z1,z2]
 refine Ak ?_
 simp only [go_sem,seval,wp7,wp8,z1,z2]
 refine Aa kk ?_
 simp only [go_sem,seval,wp7,wp8,z1,z2]
 refine Aa bb2 ?_
 simp only [go_sem,seval,wp7,wp8,z1,z2]
 refine Ac pu ?_
 simp only [go_sem,seval,wp7,wp8,z1,z2]
 refine Ac c2 ?_
 simp only [go_sem,seval,wp7,wp8,z1,z2]
 refine Ac po ?_
 simp only [go_sem,seval,wp7,wp8,z1,z2]
 refine Ak ?_
 simp only [go_sem,seval,wp7,wp8,z1,z2]
 refine Aa kk ?_
 simp only [go_sem,seval,wp7,wp8,z1,z2]
 refine Ac ce ?_
 simp only [go_sem,seval,wp7,wp8,z1,z2]
theorem Bd4 (hT:TP T b) (Dr:ns.length+2+b<1000000) (hL:L.length<1000000000000) (hi:i<1000) (hj:j<1000) (hnm:NmP nm ns) (hd:L.drop k0=ts) (h:Er T ns 14 [120,116,98] {} ts=some (lt,r)):BP 14 L k0 i j nm ns G lt r:=by
 obtain⟨y0,r0,h0,h⟩:=Bn h
 obtain⟨w0,rfl,kx0,rfl⟩:=Nq h0 (by simp)
 obtain⟨y1,r1,h1,h⟩:=Bn h
 obtain⟨a1,t1,rfl⟩:=Di h1
 obtain⟨y2,r2,h2,h⟩:=Bn h
 obtain⟨n2,a2,t2,rfl⟩:=Qm h2 (by simp)
 obtain⟨z,r',rfl,hz,Ab⟩:=Gw h
 cases Ab
 have b1:Con 65 [.int .i64 14,.int .i64 1] (.int .i64 1):=Cm 14 1
 have kk:Con 62 [.int .i64 14,.int .i64 0] (.int .i64 2):=Kb 14 0
 have c0:=Dz (i:=i) (j:=j) (nm:=nm) (G:=G) (c:=3) hd hL (by omega)
 have bb1:Con 65 [.int .i64 14,.int .i64 0] (.int .i64 0):=Cm 14 0
 obtain⟨q1,nm1,d1,m1,c1⟩:=hT ns _ _ a1 t1 (by omega) L _ i j nm G 2 hL hi hj (.inr rfl) hnm (Ar hd)
 have z1:=Ag (a1.tm i j)
 have bb2:Con 65 [.int .i64 14,.int .i64 1] (.int .i64 1):=Cm 14 1
 have pu:=Vc (L:=L) (k:=q1) (i:=i) (j:=j) (G:=G) (ws:=[w0.w]) m1 (by simp) (by omega)
 obtain⟨q2,nm2,d2,m2,c2⟩:=hT ([w0.w]++ns) _ _ a2 t2 (by simp;omega) L _ i j (nmV ([w0.w]++ns)) G 2 hL hi hj (.inr rfl) (.inr rfl) d1
 have z2:=Ag (a2.tm i j)
 have e2:nm2=nmV ([w0.w]++ns):=m2.ne
 subst e2
 have po:=Xh (L:=L) (k:=q2) (i:=i) (j:=j) (G:=G) (ns:=ns) (ws:=[w0.w]) (by simp) (by omega)
 simp only [List.reverse_cons,List.reverse_nil,List.nil_append,List.singleton_append,List.cons_append,q_h,q_i,wdR,List.length_cons,List.length_nil,Nat.zero_add] at pu po c2
 have Eo:NmP (nmV ns) ns:=.inr rfl
 have ce:=Dz (i:=i) (j:=j) (nm:=(nmV ns)) (G:=G) (c:=2) d2 hL (by omega)
 refine⟨_,(nmV ns),Ar d2,Eo,?_⟩
 have eT:LT.tm i j (.nd 14 .z .z 0 [a1,a2])=.mk 14 0 0 0 [a1.tm i j,a2.tm i j]:=by simp [LT.tm,LT.tms,LE.ev]
 change Ad _ _ _ (.ret (.agg true (tv (LT.tm i j (.nd 14 .z .z 0 [a1,a2]))))) _
 rw [eT,Am]
 simp only [q_h,q_i]
 unfold prR at c0 c1 pu c2 po ce ⊢
 refine Aq mixed Tryz.func121 tr121 ?_
 simp only [go_sem,seval,wp7,wp8,z1,z2]
 refine Aa b1 ?_
 simp only [go_sem,seval,wp7,wp8,z1,z2]
 refine Ac c0 ?_
 simp only [go_sem,seval,wp7,wp8,z1,z2]
 refine Cf 3 (Ak ?_)
 simp only [go_sem,seval,wp7,wp8,z1,z2]
 refine Aa kk ?_
 simp only [go_sem,seval,wp7,wp8,z1,z2]
 refine Aa bb1 ?_
 simp only [go_sem,seval,wp7,wp8,z1,z2]
 refine Ac c1 ?_
 simp only [go_sem,seval,wp7,wp8,z1,z2]
 refine Ak ?_
 simp only [go_sem,seval,wp7,wp8,z1,z2]
 refine Aa kk ?_
 simp only [go_sem,seval,wp7,wp8,z1,z2]
 refine Aa bb2 ?_
 simp only [go_sem,seval,wp7,wp8,z1,z2]
 refine Ac pu ?_
 simp only [go_sem,seval,wp7,wp8,z1,z2]
 refine Ac c2 ?_
 simp only [go_sem,seval,wp7,wp8,z1,z2]
 refine Ac po ?_
 simp only [go_sem,seval,wp7,wp8,z1,z2]
 refine Ak ?_
 simp only [go_sem,seval,wp7,wp8,z1,z2]
 refine Aa kk ?_
 simp only [go_sem,seval,wp7,wp8,z1,z2]
 refine Ac ce ?_
 simp only [go_sem,seval,wp7,wp8,z1,z2]
theorem A6e (hT:TP T b) (Dr:ns.length+2+b<1000000) (hL:L.length<1000000000000) (hi:i<1000) (hj:j<1000) (hnm:NmP nm ns) (hd:L.drop k0=ts) (h:Er T ns 16 [120,116,98] {} ts=some (lt,r)):BP 16 L k0 i j nm ns G lt r:=by
 obtain⟨y0,r0,h0,h⟩:=Bn h
 obtain⟨w0,rfl,kx0,rfl⟩:=Nq h0 (by simp)
 obtain⟨y1,r1,h1,h⟩:=Bn h
 obtain⟨a1,t1,rfl⟩:=Di h1
 obtain⟨y2,r2,h2,h⟩:=Bn h
 obtain⟨n2,a2,t2,rfl⟩:=Qm h2 (by simp)
 obtain⟨z,r',rfl,hz,Ab⟩:=Gw h
 cases Ab
 have b1:Con 65 [.int .i64 16,.int .i64 1] (.int .i64 1):=Cm 16 1
 have kk:Con 62 [.int .i64 16,.int .i64 0] (.int .i64 2):=Kb 16 0
 have c0:=Dz (i:=i) (j:=j) (nm:=nm) (G:=G) (c:=3) hd hL (by omega)
 have bb1:Con 65 [.int .i64 16,.int .i64 0] (.int .i64 0):=Cm 16 0
 obtain⟨q1,nm1,d1,m1,c1⟩:=hT ns _ _ a1 t1 (by omega) L _ i j nm G 2 hL hi hj (.inr rfl) hnm (Ar hd)
 have z1:=Ag (a1.tm i j)
 have bb2:Con 65 [.int .i64 16,.int .i64 1] (.int .i64 1):=Cm 16 1
 have pu:=Vc (L:=L) (k:=q1) (i:=i) (j:=j) (G:=G) (ws:=[w0.w]) m1 (by simp) (by omega)
 obtain⟨q2,nm2,d2,m2,c2⟩:=hT ([w0.w]++ns) _ _ a2 t2 (by simp;omega) L _ i j (nmV ([w0.w]++ns)) G 2 hL hi hj (.inr rfl) (.inr rfl) d1
 have z2:=Ag (a2.tm i j)
 have e2:nm2=nmV ([w0.w]++ns):=m2.ne
 subst e2
 have po:=Xh (L:=L) (k:=q2) (i:=i) (j:=j) (G:=G) (ns:=ns) (ws:=[w0.w]) (by simp) (by omega)
 simp only [List.reverse_cons,List.reverse_nil,List.nil_append,List.singleton_append,List.cons_append,q_h,q_i,wdR,List.length_cons,List.length_nil,Nat.zero_add] at pu po c2
 have Eo:NmP (nmV ns) ns:=.inr rfl
 have ce:=Dz (i:=i) (j:=j) (nm:=(nmV ns)) (G:=G) (c:=2) d2 hL (by omega)
 refine⟨_,(nmV ns),Ar d2,Eo,?_⟩
 have eT:LT.tm i j (.nd 16 .z .z 0 [a1,a2])=.mk 16 0 0 0 [a1.tm i j,a2.tm i j]:=by simp [LT.tm,LT.tms,LE.ev]
 change Ad _ _ _ (.ret (.agg true (tv (LT.tm i j (.nd 16 .z .z 0 [a1,a2]))))) _
 rw [eT,Am]
 simp only [q_h,q_i]
 unfold prR at c0 c1 pu c2 po ce ⊢
 refine Aq mixed Tryz.func121 tr121 ?_
 simp only [go_sem,seval,wp7,wp8,z1,z2]
 refine Aa b1 ?_
 simp only [go_sem,seval,wp7,wp8,z1,z2]
 refine Ac c0 ?_
 simp only [go_sem,seval,wp7,wp8,z1,z2]
 refine Cf 3 (Ak ?_)
 simp only [go_sem,seval,wp7,wp8,z1,z2]
 refine Aa kk ?_
 simp only [go_sem,seval,wp7,wp8,z1,z2]
 refine Aa bb1 ?_
 simp only [go_sem,seval,wp7,wp8,z1,z2]
 refine Ac c1 ?_
 simp only [go_sem,seval,wp7,wp8,z1,z2]
 refine Ak ?_
 simp only [go_sem,seval,wp7,wp8,z1,z2]
 refine Aa kk ?_
 simp only [go_sem,seval,wp7,wp8,z1,z2]
 refine Aa bb2 ?_
 simp only [go_sem,seval,wp7,wp8,z1,z2]
 refine Ac pu ?_
 simp only [go_sem,seval,wp7,wp8,z1,z2]
 refine Ac c2 ?_
 simp only [go_sem,seval,wp7,wp8,z1,z2]
 refine Ac po ?_
 simp only [go_sem,seval,wp7,wp8,z1,z2]
 refine Ak ?_
 simp only [go_sem,seval,wp7,wp8,z1,z2]
 refine Aa kk ?_
 simp only [go_sem,seval,wp7,wp8,z1,z2]
 refine Ac ce ?_
 simp only [go_sem,seval,wp7,wp8,z1,z2]
theorem Are (hT:TP T b) (Dr:ns.length+2+b<1000000) (hL:L.length<1000000000000) (hi:i<1000) (hj:j<1000) (hnm:NmP nm ns) (hd:L.drop k0=ts) (h:Er T ns 17 [120,116,98,116,116] {} ts=some (lt,r)):BP 17 L k0 i j nm ns G lt r:=by
 obtain⟨y0,r0,h0,h⟩:=Bn h
 obtain⟨w0,rfl,kx0,rfl⟩:=Nq h0 (by simp)
 obtain⟨y1,r1,h1,h⟩:=Bn h
 obtain⟨a1,t1,rfl⟩:=Di h1
 obtain⟨y2,r2,h2,h⟩:=Bn h
 obtain⟨n2,a2,t2,rfl⟩:=Qm h2 (by simp)
 obtain⟨y3,r3,h3,h⟩:=Bn h
 obtain⟨a3,t3,rfl⟩:=Di h3
 obtain⟨y4,r4,h4,h⟩:=Bn h
 obtain⟨a4,t4,rfl⟩:=Di h4
 obtain⟨z,r',rfl,hz,Ab⟩:=Gw h
 cases Ab
 have b1:Con 65 [.int .i64 17,.int .i64 1] (.int .i64 1):=Cm 17 1
 have kk:Con 62 [.int .i64 17,.int .i64 0] (.int .i64 4):=Kb 17 0
 have c0:=Dz (i:=i) (j:=j) (nm:=nm) (G:=G) (c:=3) hd hL (by omega)
 have bb1:Con 65 [.int .i64 17,.int .i64 0] (.int .i64 0):=Cm 17 0
 obtain⟨q1,nm1,d1,m1,c1⟩:=hT ns _ _ a1 t1 (by omega) L _ i j nm G 2 hL hi hj (.inr rfl) hnm (Ar hd)
 have z1:=Ag (a1.tm i j)
 have bb2:Con 65 [.int .i64 17,.int .i64 1] (.int .i64 1):=Cm 17 1
 have pu:=Vc (L:=L) (k:=q1) (i:=i) (j:=j) (G:=G) (ws:=[w0.w]) m1 (by simp) (by omega)
 obtain⟨q2,nm2,d2,m2,c2⟩:=hT ([w0.w]++ns) _ _ a2 t2 (by simp;omega) L _ i j (nmV ([w0.w]++ns)) G 2 hL hi hj (.inr rfl) (.inr rfl) d1
 have z2:=Ag (a2.tm i j)
 have e2:nm2=nmV ([w0.w]++ns):=m2.ne
 subst e2
 have po:=Xh (L:=L) (k:=q2) (i:=i) (j:=j) (G:=G) (ns:=ns) (ws:=[w0.w]) (by simp) (by omega)
 simp only [List.reverse_cons,List.reverse_nil,List.nil_append,List.singleton_append,List.cons_append,q_h,q_i,wdR,List.length_cons,List.length_nil,Nat.zero_add] at pu po c2
 have Eo:NmP (nmV ns) ns:=.inr rfl
 have bb3:Con 65 [.int .i64 17,.int .i64 2] (.int .i64 0):=Cm 17 2
 obtain⟨q3,nm3,d3,m3,c3⟩:=hT ns _ _ a3 t3 (by omega) L _ i j (nmV ns) G 2 hL hi hj (.inr rfl) Eo d2
 have z3:=Ag (a3.tm i j)
 have bb4:Con 65 [.int .i64 17,.int .i64 3] (.int .i64 0):=Cm 17 3
 obtain⟨q4,nm4,d4,m4,c4⟩:=hT ns _ _ a4 t4 (by omega) L _ i j nm3 G 2 hL hi hj (.inr rfl) m3 d3
 have z4:=Ag (a4.tm i j)
 have ce:=Dz (i:=i) (j:=j) (nm:=nm4) (G:=G) (c:=2) d4 hL (by omega)
 refine⟨_,nm4,Ar d4,m4,?_⟩
 have eT:LT.tm i j (.nd 17 .z .z 0 [a1,a2,a3,a4])=.mk 17 0 0 0 [a1.tm i j,a2.tm i j,a3.tm i j,a4.tm i j]:=by simp [LT.tm,LT.tms,LE.ev]
 change Ad _ _ _ (.ret (.agg true (tv (LT.tm i j (.nd 17 .z .z 0 [a1,a2,a3,a4]))))) _
 rw [eT,Am]
 simp only [q_h,q_i]
 unfold prR at c0 c1 pu c2 po c3 c4 ce ⊢
 refine Aq mixed Tryz.func121 tr121 ?_
 simp only [go_sem,seval,wp7,wp8,z1,z2,z3,z4]
 refine Aa b1 ?_
 simp only [go_sem,seval,wp7,wp8,z1,z2,z3,z4]
 refine Ac c0 ?_
 simp only [go_sem,seval,wp7,wp8,z1,z2,z3,z4]
 refine Cf 5 (Ak ?_)
 simp only [go_sem,seval,wp7,wp8,z1,z2,z3,z4]
 refine Aa kk ?_
 simp only [go_sem,seval,wp7,wp8,z1,z2,z3,z4]
 refine Aa bb1 ?_
 simp only [go_sem,seval,wp7,wp8,z1,z2,z3,z4]
 refine Ac c1 ?_
 simp only [go_sem,seval,wp7,wp8,z1,z2,z3,z4]
 refine Ak ?_
 simp only [go_sem,seval,wp7,wp8,z1,z2,z3,z4]
 refine Aa kk ?_
 simp only [go_sem,seval,wp7,wp8,z1,z2,z3,z4]
 refine Aa bb2 ?_
 simp only [go_sem,seval,wp7,wp8,z1,z2,z3,z4]
 refine Ac pu ?_
 simp only [go_sem,seval,wp7,wp8,z1,z2,z3,z4]
 refine Ac c2 ?_
 simp only [go_sem,seval,wp7,wp8,z1,z2,z3,z4]
 refine Ac po ?_
 simp only [go_sem,seval,wp7,wp8,z1,z2,z3,z4]
 refine Ak ?_
 simp only [go_sem,seval,wp7,wp8,z1,z2,z3,z4]
 refine Aa kk ?_
 simp only [go_sem,seval,wp7,wp8,z1,z2,z3,z4]
 refine Aa bb3 ?_
 simp only [go_sem,seval,wp7,wp8,z1,z2,z3,z4]
 refine Ac c3 ?_
 simp only [go_sem,seval,wp7,wp8,z1,z2,z3,z4]
 refine Ak ?_
 simp only [go_sem,seval,wp7,wp8,z1,z2,z3,z4]
 refine Aa kk ?_
 simp only [go_sem,seval,wp7,wp8,z1,z2,z3,z4]
 refine Aa bb4 ?_
 simp only [go_sem,seval,wp7,wp8,z1,z2,z3,z4]
 refine Ac c4 ?_
 simp only [go_sem,seval,wp7,wp8,z1,z2,z3,z4]
 refine Ak ?_
 simp only [go_sem,seval,wp7,wp8,z1,z2,z3,z4]
 refine Aa kk ?_
 simp only [go_sem,seval,wp7,wp8,z1,z2,z3,z4]
 refine Ac ce ?_
 simp only [go_sem,seval,wp7,wp8,z1,z2,z3,z4]
theorem bp_j (hT:TP T b) (Dr:ns.length+2+b<1000000) (hL:L.length<1000000000000) (hi:i<1000) (hj:j<1000) (hnm:NmP nm ns) (hd:L.drop k0=ts) (h:Er T ns 22 [116,116,121,101,80,116,116,116] {} ts=some (lt,r)):BP 22 L k0 i j nm ns G lt r:=by
 obtain⟨y0,r0,h0,h⟩:=Bn h
 obtain⟨a0,t0,rfl⟩:=Di h0
 obtain⟨y1,r1,h1,h⟩:=Bn h
 obtain⟨a1,t1,rfl⟩:=Di h1
 obtain⟨y2,r2,h2,h⟩:=Bn h
 obtain⟨w2,rfl,kx2,rfl⟩:=Nq h2 (by simp)
 obtain⟨y3,r3,h3,h⟩:=Bn h
 obtain⟨w3,rfl,kx3,rfl⟩:=Nq h3 (by simp)
 obtain⟨y4,r4,h4,h⟩:=Bn h
 obtain⟨n4,a4,t4,rfl⟩:=Qm h4 (by simp)
 obtain⟨y5,r5,h5,h⟩:=Bn h
 obtain⟨a5,t5,rfl⟩:=Di h5
 obtain⟨y6,r6,h6,h⟩:=Bn h
 obtain⟨a6,t6,rfl⟩:=Di h6
 obtain⟨y7,r7,h7,h⟩:=Bn h
 obtain⟨a7,t7,rfl⟩:=Di h7
 obtain⟨z,r',rfl,hz,Ab⟩:=Gw h
 cases Ab
 have b1:Con 65 [.int .i64 22,.int .i64 1] (.int .i64 0):=Cm 22 1
 have kk:Con 62 [.int .i64 22,.int .i64 0] (.int .i64 6):=Kb 22 0
 have bb0:Con 65 [.int .i64 22,.int .i64 0] (.int .i64 0):=Cm 22 0
 obtain⟨q0,nm0,d0,m0,c0⟩:=hT ns _ _ a0 t0 (by omega) L _ i j nm G 2 hL hi hj (.inr rfl) hnm hd
 have z0:=Ag (a0.tm i j)
 have bb1:Con 65 [.int .i64 22,.int .i64 1] (.int .i64 0):=Cm 22 1
 obtain⟨q1,nm1,d1,m1,c1⟩:=hT ns _ _ a1 t1 (by omega) L _ i j nm0 G 2 hL hi hj (.inr rfl) m0 d0
 have z1:=Ag (a1.tm i j)
 have c2:=Dz (i:=i) (j:=j) (nm:=nm1) (G:=G) (c:=3) d1 hL (by omega)
 have c3:=Dz (i:=i) (j:=j) (nm:=nm1) (G:=G) (c:=3) (Ar d1) hL (by omega)
 have bb4:Con 65 [.int .i64 22,.int .i64 2] (.int .i64 2):=Cm 22 2
 have pu:=Vc (L:=L) (k:=((q1+1)+1)) (i:=i) (j:=j) (G:=G) (ws:=[w2.w,w3.w]) m1 (by simp) (by omega)
 obtain⟨q4,nm4,d4,m4,c4⟩:=hT ([w3.w,w2.w]++ns) _ _ a4 t4 (by simp;omega) L _ i j (nmV ([w3.w,w2.w]++ns)) G 2 hL hi hj (.inr rfl) (.inr rfl) (Ar (Ar d1))
 have z4:=Ag (a4.tm i j)
 have e4:nm4=nmV ([w3.w,w2.w]++ns):=m4.ne
 subst e4
 have po:=Xh (L:=L) (k:=q4) (i:=i) (j:=j) (G:=G) (ns:=ns) (ws:=[w2.w,w3.w]) (by simp) (by omega)
 simp only [List.reverse_cons,List.reverse_nil,List.nil_append,List.singleton_append,List.cons_append,q_h,q_i,wdR,List.length_cons,List.length_nil,Nat.zero_add] at pu po c4
 have hq4:NmP (nmV ns) ns:=.inr rfl
 have bb5:Con 65 [.int .i64 22,.int .i64 3] (.int .i64 0):=Cm 22 3
 obtain⟨q5,nm5,d5,m5,c5⟩:=hT ns _ _ a5 t5 (by omega) L _ i j (nmV ns) G 2 hL hi hj (.inr rfl) hq4 d4
 have z5:=Ag (a5.tm i j)
 have bb6:Con 65 [.int .i64 22,.int .i64 4] (.int .i64 0):=Cm 22 4
 obtain⟨q6,nm6,d6,m6,c6⟩:=hT ns _ _ a6 t6 (by omega) L _ i j nm5 G 2 hL hi hj (.inr rfl) m5 d5
 have z6:=Ag (a6.tm i j)
 have bb7:Con 65 [.int .i64 22,.int .i64 5] (.int .i64 0):=Cm 22 5
 obtain⟨q7,nm7,d7,m7,c7⟩:=hT ns _ _ a7 t7 (by omega) L _ i j nm6 G 2 hL hi hj (.inr rfl) m6 d6
 have z7:=Ag (a7.tm i j)
 have ce:=Dz (i:=i) (j:=j) (nm:=nm7) (G:=G) (c:=2) d7 hL (by omega)
 refine⟨_,nm7,Ar d7,m7,?_⟩
 have eT:LT.tm i j (.nd 22 .z .z 0 [a0,a1,a4,a5,a6,a7])=.mk 22 0 0 0 [a0.tm i j,a1.tm i j,a4.tm i j,a5.tm i j,a6.tm i j,a7.tm i j]:=by simp [LT.tm,LT.tms,LE.ev]
 change Ad _ _ _ (.ret (.agg true (tv (LT.tm i j (.nd 22 .z .z 0 [a0,a1,a4,a5,a6,a7]))))) _
 rw [eT,Am]
 simp only [q_h,q_i]
 unfold prR at c0 c1 c2 c3 pu c4 po c5 c6 c7 ce ⊢
 refine Aq mixed Tryz.func121 tr121 ?_
 simp only [go_sem,seval,wp7,wp8,z0,z1,z4,z5,z6,z7]
 refine Aa b1 ?_
 simp only [go_sem,seval,wp7,wp8,z0,z1,z4,z5,z6,z7]
 refine Cf 7 (Ak ?_)
 simp only [go_sem,seval,wp7,wp8,z0,z1,z4,z5,z6,z7]
 refine Aa kk ?_
 simp only [go_sem,seval,wp7,wp8,z0,z1,z4,z5,z6,z7]
 refine Aa bb0 ?_
 simp only [go_sem,seval,wp7,wp8,z0,z1,z4,z5,z6,z7]
 refine Ac c0 ?_
 simp only [go_sem,seval,wp7,wp8,z0,z1,z4,z5,z6,z7]
 refine Ak ?_
 simp only [go_sem,seval,wp7,wp8,z0,z1,z4,z5,z6,z7]
 refine Aa kk ?_
 simp only [go_sem,seval,wp7,wp8,z0,z1,z4,z5,z6,z7]
 refine Aa bb1 ?_
 simp only [go_sem,seval,wp7,wp8,z0,z1,z4,z5,z6,z7]
 refine Ac c1 ?_
 simp only [go_sem,seval,wp7,wp8,z0,z1,z4,z5,z6,z7]
 refine Ak ?_
 simp only [go_sem,seval,wp7,wp8,z0,z1,z4,z5,z6,z7]
 refine Aa kk ?_
 simp only [go_sem,seval,wp7,wp8,z0,z1,z4,z5,z6,z7]
 refine Ac c2 ?_
 simp only [go_sem,seval,wp7,wp8,z0,z1,z4,z5,z6,z7]
 refine Ac c3 ?_
 simp only [go_sem,seval,wp7,wp8,z0,z1,z4,z5,z6,z7]
 refine Aa bb4 ?_
 simp only [go_sem,seval,wp7,wp8,z0,z1,z4,z5,z6,z7]
 refine Ac pu ?_
 simp only [go_sem,seval,wp7,wp8,z0,z1,z4,z5,z6,z7]
 refine Ac c4 ?_
 simp only [go_sem,seval,wp7,wp8,z0,z1,z4,z5,z6,z7]
 refine Ac po ?_
 simp only [go_sem,seval,wp7,wp8,z0,z1,z4,z5,z6,z7]
 refine Ak ?_
 simp only [go_sem,seval,wp7,wp8,z0,z1,z4,z5,z6,z7]
 refine Aa kk ?_
 simp only [go_sem,seval,wp7,wp8,z0,z1,z4,z5,z6,z7]
 refine Aa bb5 ?_
 simp only [go_sem,seval,wp7,wp8,z0,z1,z4,z5,z6,z7]
 refine Ac c5 ?_
 simp only [go_sem,seval,wp7,wp8,z0,z1,z4,z5,z6,z7]
 refine Ak ?_
 simp only [go_sem,seval,wp7,wp8,z0,z1,z4,z5,z6,z7]
 refine Aa kk ?_
 simp only [go_sem,seval,wp7,wp8,z0,z1,z4,z5,z6,z7]
 refine Aa bb6 ?_
 simp only [go_sem,seval,wp7,wp8,z0,z1,z4,z5,z6,z7]
 refine Ac c6 ?_
 simp only [go_sem,seval,wp7,wp8,z0,z1,z4,z5,z6,z7]
 refine Ak ?_
 simp only [go_sem,seval,wp7,wp8,z0,z1,z4,z5,z6,z7]
 refine Aa kk ?_
 simp only [go_sem,seval,wp7,wp8,z0,z1,z4,z5,z6,z7]
 refine Aa bb7 ?_
 simp only [go_sem,seval,wp7,wp8,z0,z1,z4,z5,z6,z7]
 refine Ac c7 ?_
 simp only [go_sem,seval,wp7,wp8,z0,z1,z4,z5,z6,z7]
 refine Ak ?_
 simp only [go_sem,seval,wp7,wp8,z0,z1,z4,z5,z6,z7]
 refine Aa kk ?_
 simp only [go_sem,seval,wp7,wp8,z0,z1,z4,z5,z6,z7]
 refine Ac ce ?_
 simp only [go_sem,seval,wp7,wp8,z0,z1,z4,z5,z6,z7]
end
section
variable {T:TF} {b:Nat} {ns:List By} {k0 i j:Nat} {L ts r:List Tok} {nm:SV} {G:List (List SV)} {lt:LT}
theorem Aqe (hL:L.length<1000000000000) (hi:i<1000) (hj:j<1000) (hnm:NmP nm ns) (hd:L.drop k0=ts) (h:Er T ns 1 [76] {} ts=some (lt,r)):BP 1 L k0 i j nm ns G lt r:=by
 obtain⟨y0,r0,h0,h⟩:=Bn h
 obtain⟨a0,t0,rfl⟩:=Aab h0
 obtain⟨z,r',rfl,hz,Ab⟩:=Gw h
 cases Ab
 have b1:Con 65 [.int .i64 1,.int .i64 1] (.int .i64 0):=Cm 1 1
 have kk:Con 62 [.int .i64 1,.int .i64 0] (.int .i64 0):=Kb 1 0
 obtain⟨q0,d0,c0⟩:=Add (nm:=nm) (G:=G) hd hL hi hj t0
 have ce:=Dz (i:=i) (j:=j) (nm:=nm) (G:=G) (c:=2) d0 hL (by omega)
 refine⟨_,nm,Ar d0,hnm,?_⟩
 have eT:LT.tm i j (.nd 1 a0 .z 0 [])=.mk 1 (a0.ev i j:Nat) 0 0 []:=by simp [LT.tm,LT.tms,LE.ev]
 change Ad _ _ _ (.ret (.agg true (tv (LT.tm i j (.nd 1 a0 .z 0 []))))) _
 rw [eT]
 unfold prR at c0 ce ⊢
 refine (Aq (out:=.ret (.agg true [.int .i64 1,.int .i64 (a0.ev i j:Nat),.int .i64 0,.int .i64 0,.nils])) mixed Tryz.func121 tr121 ?_).weaken (Mh _ _ _ _)
 simp only [go_sem,seval]
 refine Ac c0 ?_
 simp only [go_sem,seval]
 refine Aa b1 ?_
 simp only [go_sem,seval]
 refine Cf 1 (Ak ?_)
 simp only [go_sem,seval]
 refine Aa kk ?_
 simp only [go_sem,seval]
 refine Ac ce ?_
 simp only [go_sem,seval]
def uS (L:List Tok) (k:Nat) (nm:SV) (i j:Nat) (G:List (List SV)) (a c n:Int) (done:List Tm):St:=
 ⟨(.gp 0 0::.int .i64 23::.jk::.jk::.ref 1 0 0 0::.ref 2 0 0 0::.int .i64 2::.jk::.jk::.osl 3 done.length 0 done.length::.int .i64 done.length::.jk::.jk::.jk::.jk::.jk::.jk::.jk::.jk::.jk::.jk::.jk::.jk::.jk::.jk::.jk::.jk::.jk::.jk::.jk::.jk::.jk::.jk::.jk::.jk::.jk::.jk::.jk::.jk::.jk::.jk::.jk::.jk::.jk::.jk::.jk::.jk::.jk::.jk::.jk::.jk::.jk::.jk::.jk::.jk::.jk::.jk::.jk::.jk::.jk::.jk::.jk::.jk::.jk::.jk::.jk::.jk::.jk::.jk::.jk::.jk::.jk::.jk::.jk::.jk::.jk::.jk::.jk::.jk::.jk::.jk::.jk::.jk::.jk::.jk::.jk::.jk::.jk::.jk::.jk::.jk::.jk::.jk::.jk::.jk::.jk::.jk::.jk::.jk::.jk::.jk::.jk::.jk::.jk::.jk::.jk::.jk::.jk::.jk::.jk::.jk::.jk::.jk::.jk::.jk::.jk::.jk::.jk::.jk::.jk::.jk::.jk::.jk::.jk::.jk::.jk::.jk::.jk::.jk::.jk::.jk::.jk::[]),[gOb (prR L k nm i j::G),⟨true,5,[[.int .i64 0,.int .i64 0,.int .i64 0,.int .i64 0,.nils]],0,0,true⟩,⟨true,5,[[.int .i64 23,.int .i64 a,.int .i64 c,.int .i64 n,.nils]],0,0,true⟩,⟨false,5,done.map tv,done.length-1,done.length,true⟩]⟩
def UsL (L:List Tok) (k:Nat) (nm:SV) (i j:Nat) (G:List (List SV)) (a c n:Int) (done:List Tm) (out:HOut) (G':List (List SV)) (m:Nat):Prop:=
 vcI (Bd Tryz.prog fun _ _=>False) a121_107 (bk 1 (sq (Bd Tryz.prog fun _ _=>False) a121_116 (rtG [.cell 4 true 5] out G'))) m (uS L k nm i j G a c n done)
theorem Baz {k:Nat} {a c n:Int} {done:List Tm} {z:Tok} (hM:Bf 23 n=done.length) (Um:done.length≤100) (hL:L.length<1000000000000) (hd:L.drop k=z::r) (hz:z.k=2) :
  UsL L k nm i j G a c n done (.ret (.agg true (tv (.mk 23 a c n done)))) (prR L (k+1) nm i j::G) 1:=by
 have kk:=Kb 23 n
 rw [hM] at kk
 have ce:=Dz (i:=i) (j:=j) (nm:=nm) (G:=G) (c:=2) hd hL (by omega)
 refine Ak ?_
 unfold uS
 rw [Am]
 have ht:(done.map tv).take done.length=done.map tv:=List.take_of_length_le (by simp)
 unfold prR at ce ⊢
 simp only [go_sem,seval]
 refine Aa kk ?_
 simp only [go_sem,seval,decide_eq_false (show ¬(done.length:Int)<done.length by omega)]
 refine Ac ce ?_
 simp only [go_sem,seval,q_g,ht]
theorem Ans (hT:TP T b) (Dr:ns.length+b<1000000) (hL:L.length<1000000000000) (hi:i<1000) (hj:j<1000) {a c n:Int} {z:Tok} {r':List Tok} (hz:z.k=2) (hr:r=z::r') :
  ∀(m:Nat) (ts:List Tok) (l:List LT) (k:Nat) (nm:SV) (done:List Tm),Lw T ns m ts=some (l,r)→Bf 23 n=(done.length+m:Nat)→done.length+m≤100→NmP nm ns→L.drop k=ts →
  ∃q k' nm',L.drop k'=r'∧NmP nm' ns∧UsL L k nm i j G a c n done (.ret (.agg true (tv (.mk 23 a c n (done++l.map (LT.tm i j)))))) (prR L k' nm' i j::G) q:=by
 intro m
 induction m with
 |zero=>
  intro ts l k nm done h hM hle hnm hd
  cases h
  subst hr
  refine⟨1,k+1,nm,Ar hd,hnm,?_⟩
  rw [q_i,List.append_nil]
  exact Baz hM (by omega) hL hd hz
 |succ m ih=>
  intro ts l k nm done h hM hle hnm hd
  rw [Lw] at h
  cases ht:T ns ts with
  |none=>rw [ht] at h;cases h
  |some p=>
   obtain⟨t0,r1⟩:=p
   rw [ht] at h
   dsimp only at h
   cases hm:Lw T ns m r1 with
   |none=>rw [hm] at h;cases h
   |some p2=>
    obtain⟨l1,r2⟩:=p2
    rw [hm] at h
    dsimp only at h
    cases h
    obtain⟨k1,nm1,d1,m1,c1⟩:=hT ns ts r1 t0 ht Dr L k i j nm G 2 hL hi hj (.inr rfl) hnm hd
    obtain⟨q,k',nm',g1,g2,h2⟩:=ih r1 l1 k1 nm1 (done++[t0.tm i j]) hm (by rw [hM];simp;omega) (by simp;omega) m1 d1
    rw [List.append_assoc,List.singleton_append] at h2
    refine⟨q+1,k',nm',g1,g2,?_⟩
    have kk:=Kb 23 n
    rw [hM] at kk
    have bb:Con 65 [.int .i64 23,.int .i64 done.length] (.int .i64 0):=Cm 23 done.length
    have Ty:=Ag (t0.tm i j)
    have e3:(done.length+1)*56≤140737488355328:=by omega
    have e4:done.length+1≤140737488355328:=by omega
    have e1:(done.length:Int)<((done.length+(m+1):Nat):Int):=by omega
    refine Ak ?_
    unfold UsL at h2
    unfold uS at h2 ⊢
    have hpr:gOb (prR L k1 nm1 i j::G)=gOb ([.dsl 3 (L.map El),.int .i64 k1,.int .i64 (-1),.int .i64 i,.int .i64 j,nm1]::G):=rfl
    unfold prR at c1 h2 ⊢
    simp only [go_sem,seval]
    refine Aa kk ?_
    simp only [go_sem,seval,decide_eq_true e1]
    refine Aa bb ?_
    simp only [go_sem,seval]
    refine Ac c1 ?_
    simp only [go_sem,seval,Ty,e3,e4,q_g,w64 (show fit ((done.length:Int)+1) by unfold fit;omega)]
    have eL:(done++[t0.tm i j]).length=done.length+1:=by simp
    have eN:((done.length+1:Nat):Int)=(done.length:Int)+1:=rfl
    have eM:(done++[t0.tm i j]).map tv=done.map tv++[tv (t0.tm i j)]:=by simp
    simp only [eL,eN,eM,Nat.add_sub_cancel] at h2
    exact Dc (Do 4 (by simp [Ao]) (by simp) (by simp [Be]) (by simp [gOb])) h2
end
end Go.Proofs.YtdpigpopcbjkmaaGreatDoor.Abs
