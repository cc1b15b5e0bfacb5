import Derived.Test.YtdpigpopcbjkmaaGreatDoorXTo
import Derived.Test.YtdpigpopcbjkmaaGreatDoorXTk
import Derived.Test.YtdpigpopcbjkmaaGreatDoorXDo
import Derived.Test.YtdpigpopcbjkmaaGreatDoorXTh
import Derived.Test.YtdpigpopcbjkmaaGreatDoorXAfB
import Derived.Test.YtdpigpopcbjkmaaGreatDoorXBi
set_option linter.unusedSimpArgs false
set_option linter.unusedVariables false
set_option maxRecDepth 20000
set_option maxHeartbeats 4000000
namespace Go.Proofs.YtdpigpopcbjkmaaGreatDoor.Abs
open Go Go.RowKit Go.Proofs.YtdpigpopcbjkmaaGreatDoor
theorem Ag0:∀n,n<21->Bh 23 ((n+1:Nat):Int)=((arN (n+1):Nat):Int)/\arN (n+1)<=12:=by decide
section
variable{T:TF}{b:Nat}{ns:List By}{k0 i j:Nat}{L ts r:List Tok}{nm:SV}{G:GV}{lt:LT}
theorem Aro(hT:TP T b)(Eb:ns.length+2+b<1000000)(hL:L.length<1000000000000)(hi:i<1000)(hj:j<1000)(hnm:NmP nm ns)(hd:L.drop k0=ts)(h:Fl T ns 23 [83,76,77] {} ts=some (lt,r)):BP 23 L k0 i j nm ns G lt r:=by
 obtain⟨y0,r0,h0,h⟩:=Bp h;obtain⟨u,n,rfl,hu,hn,rfl⟩:=Alj h0;obtain⟨y1,r1,h1,h⟩:=Bp h;obtain⟨a1,t1,rfl⟩:=Aaz h1;obtain⟨y2,r2,h2,h⟩:=Bp h;obtain⟨a2,r3,l,t2,t3,rfl⟩:=Ali h2;obtain⟨z,r',rfl,hz,Ab⟩:=Hs h;cases Ab;have hnl:n<21:=(List.getElem?_eq_some_iff.1 (Tj hn).1).1;obtain⟨Ry,Dr⟩:=Ag0 n hnl;have c1:=Rs (i:=i) (j:=j) (nm:=nm) (G:=G) hd hL;have c2:=Av8 hn;have c3:=Kr (i:=i) (j:=j) (nm:=nm) (G:=G) hd hL;rw[hu] at c3;have Ez:=Ar hd;obtain⟨q1,d1,c4⟩:=Adx (nm:=nm) (G:=G) Ez hL hi hj t1;obtain⟨q2,d2,c5⟩:=Adx (nm:=nm) (G:=G) d1 hL hi hj t2;have b1:Con 65 [.int .i64 23,.int .i64 1] (.int .i64 0):=Cl 23 1;obtain⟨q,k',nm',g1,g2,Qm⟩:=Bhr (G:=G) (i:=i) (j:=j) (a:=(a1.ev i j:Nat)) (c:=(a2.ev i j:Nat)) (n:=((n+1:Nat):Int)) hT (by omega) hL hi hj hz rfl (arN (n+1)) r3 l q2 nm [] t3 (by rw[Ry];simp) (by simp;omega) hnm d2;refine⟨k',nm',g1,g2,?_⟩;have eT:LT.tm i j (.nd 23 a1 a2 (n+1) l)=.mk 23 (a1.ev i j:Nat) (a2.ev i j:Nat) ((n+1:Nat):Int) (l.map (LT.tm i j)):=by simp[LT.tm,Af7]
 change Ad _ _ _ (.ret (.agg true (tv (LT.tm i j (.nd 23 a1 a2 (n+1) l))))) _;rw[eT];rw[List.nil_append] at Qm;obtain⟨R,hR⟩:∃R,R=SV.agg true (tv (.mk 23 (a1.ev i j:Nat) (a2.ev i j:Nat) ((n+1:Nat):Int) (l.map (LT.tm i j)))):=⟨_,rfl⟩
 rw[<-hR] at Qm |-;obtain⟨a1',a2',a3,a4,a5,a6,a7,a8,a9,a10⟩:=Dk hd;have a6:=a6 hL;have n0:(((n+1:Nat):Int)==0)=false:=by rw[beq_eq_false_iff_ne];omega
 refine Aq mixed Tryz.func121 tr121 ?_;unfold UsL uS at Qm;unfold prR at c1 c3 c4 c5 Qm |-;simp only[go_sem,seval];refine Ac c1 ?_;simp only[go_sem,seval];refine Aa c2 ?_;simp only[go_sem,seval];refine Ac c3 ?_;simp only[go_sem,seval,n0,a6];refine Ac c4 ?_;simp only[go_sem,seval];refine Ac c5 ?_;simp only[go_sem,seval];refine Aa b1 ?_;simp only[go_sem,seval];exact Cd q (Cr (.trans (.ghost _ 9 5 rfl) (Au (by simp[An]))) Qm)
theorem A3g{k n:Nat}{want:Int}{t:Tok}(h:L.drop k=t::r)(hL:L.length<1000000000000)(ht:t.k=3)(hn:Jz t.w ns=some n)(Eb:ns.length<1000000) :
  Ad 100 (prR L k (nmV ns) i j::G) [.gp 0 0,.int .i64 want] (.ret (.agg true (tv (vT n)))) (prR L (k+1) (nmV ns) i j::G):=by
 obtain⟨a1,a2,a3,a4,a5,a6,a7,a8,a9,a10⟩:=Dk h;have a6:=a6 hL;have c1:=Kr (i:=i) (j:=j) (nm:=nmV ns) (G:=G) h hL;have c2:=Rs (i:=i) (j:=j) (nm:=nmV ns) (G:=G) h hL;rw[ht] at c1;obtain⟨h1,h2⟩:=Tj hn;have Ab:=(List.getElem?_eq_some_iff.1 h1).1;have Bt:∀(m:Nat) v,ns[m]?=some v->(ns.reverse.map wdR)[ns.length-1-m]?.getD []=[.str (bs v)]:=fun m v hv=>by
  have hm:=(List.getElem?_eq_some_iff.1 hv).1;rw[List.getElem?_map,List.getElem?_reverse (by omega),show ns.length-1-(ns.length-1-m)=m by omega,hv];rfl
 have Ah:(ns.reverse.map wdR).length=ns.length:=by simp
 refine (Aq (out:=.ret (.agg true [.int .i64 2,.int .i64 n,.int .i64 0,.int .i64 0,.nils])) mixed Tryz.func100 tr100 ?_).weaken (Mq _ _ _ _);unfold prR nmV at c1 c2 |-;have Nl:(ns.length<=140737488355328)=True:=by simp;omega
 have ew:IntKind.i64.wrap ((ns.length:Int)-1)=(ns.length:Int)-1-(0:Nat):=by rw[w64 (by unfold fit;omega)];omega
 generalize ns.reverse.map wdR=R at *
 simp only[go_sem,seval];refine Ac c1 ?_;simp only[go_sem,seval,Ah,Nl,forall_const];rw[ew];refine Jj (fun x=>⟨(.gp 0 0::.int .i64 want::.J::.J::.ref 1 0 0 0::.int .i64 ((ns.length:Int)-1-x)::.J::.J::.J::.J::.J::.J::.J::.J::.J::.J::.J::.J::.J::.J::.J::.J::.J::.J::.J::.J::.J::.J::.J::.J::.J::.J::.J::.J::.J::.J::.J::.J::.J::.J::.J::.J::.J::.J::.J::.J::.J::.J::.J::.J::.J::.J::.J::.J::.J::.J::.J::.J::.J::.J::.J::.J::.J::.J::.J::.J::.J::.J::.J::.J::.J::.J::.J::.J::.J::.J::.J::.J::.J::.J::.J::.J::.J::.J::.J::.J::.J::.J::.J::[]),[gOb ([.dsl 3 (L.map Fd),.int .i64 k,.int .i64 (-1),.int .i64 i,.int .i64 j,.dsl 1 R]::G),⟨true,5,[[.int .i64 0,.int .i64 0,.int .i64 0,.int .i64 0,.nils]],0,0,true⟩]⟩) n (fun x hx=>?_) ?_
 ·have hq:ns.length-1-x<ns.length:=by omega
  have eI:(ns.length:Int)-1-x=((ns.length-1-x:Nat):Int):=by omega
  have e0:(0:Int)<=((ns.length-1-x:Nat):Int):=by omega
  have e1:((ns.length-1-x:Nat):Int)<(ns.length:Int):=by omega
  have eg:((ns.length-1-x:Nat):Int) >= 0:=e0;rw[eI]
  by_cases Yv:x<n
  ·obtain⟨v,h3,h4⟩:=h2 x Yv;simp only[go_sem,seval,forall_const,decide_eq_true eg,e0,e1,hq,Ah,Nl,Bt x v h3];refine Ac c2 ?_;simp only[go_sem,seval,h4,w64 (show fit (((ns.length-1-x:Nat):Int)-1) by unfold fit;omega)];refine⟨Yv,?_⟩;rw[show ((ns.length-1-x:Nat):Int)-1=(ns.length:Int)-1-((x+1:Nat):Int) by omega];exact Au (by simp[An])
  ·have:x=n:=by omega
   subst this;simp only[go_sem,seval,forall_const,decide_eq_true eg,e0,e1,hq,Ah,Nl,Bt x t.w h1];refine Ac c2 ?_;simp only[go_sem,seval,beq_self_eq_true,a6,Ah,Nl,forall_const,w64 (show fit ((ns.length:Int)-1) by unfold fit;omega),show (ns.length:Int)-1-((ns.length-1-x:Nat):Int)=(x:Int) by omega,w64 (show fit (x:Int) by unfold fit;omega)]
 ·exact Au (by simp[An])
theorem Mh{k kk:Nat}{want:Int}{t u:Tok}(h:L.drop k=t::u::ts)(hL:L.length<1000000000000)(ht:t.k=1)(hl:Ad 120 (prR L (k+1) nm i j::G) [.gp 0 0,.int .i64 want] (.ret (.int .i64 kk)) (prR L (k+1) nm i j::G))(Yr:kk≠0)
  (hb:∃k' nm',L.drop k'=r/\NmP nm' ns/\Ad 121 (prR L (k+1+1) nm i j::G) [.gp 0 0,.int .i64 kk] (.ret (.agg true (tv (lt.tm i j)))) (prR L k' nm' i j::G)) :
  ∃k' nm',L.drop k'=r/\NmP nm' ns/\Ad 100 (prR L k nm i j::G) [.gp 0 0,.int .i64 want] (.ret (.agg true (tv (lt.tm i j)))) (prR L k' nm' i j::G):=by
 obtain⟨k',nm',g1,g2,c4⟩:=hb;refine⟨k',nm',g1,g2,?_⟩;have d1:=Ar h;obtain⟨b1,b2,b3,b4,b5,b6,b7,b8,b9,b10⟩:=Dk d1;have b6:=b6 hL;have c1:=Kr (i:=i) (j:=j) (nm:=nm) (G:=G) h hL;have c2:=Em (i:=i) (j:=j) (nm:=nm) (G:=G) (c:=1) h hL (by omega);rw[ht] at c1;have n0:((kk:Int)==0)=false:=by rw[beq_eq_false_iff_ne];omega
 have hz:=Af (lt.tm i j);refine Aq mixed Tryz.func100 tr100 ?_;unfold prR at c1 c2 c4 hl |-;simp only[go_sem,seval];refine Ac c1 ?_;simp only[go_sem,seval];refine Ac c2 ?_;simp only[go_sem,seval];refine Ac hl ?_;simp only[go_sem,seval,n0,b6];refine Ac c4 ?_;simp only[go_sem,seval,hz]
end
def Ph(a c n:Int)(k:SV):List SV:=[.int .i64 23,.int .i64 a,.int .i64 c,.int .i64 n,k]
theorem Afd{a c n:Int}{k:SV}(h:NoG k):∀x∈Ph a c n k,NoG x:=fun x hx=>by
 simp only[Ph,List.mem_cons,List.not_mem_nil,or_false] at hx;rcases hx with rfl|rfl|rfl|rfl|rfl
 ·exact .int _ _
 ·exact .int _ _
 ·exact .int _ _
 ·exact .int _ _
 ·exact h
theorem Aqg:∀n,n<21->0<arN (n+1)/\arN (n+1)<=100:=by decide
def GvC(T:TF)(b:Nat):Prop:=∀(ns:List By) (ts r:List Tok) (l:List LT) (m:Nat),Mr T ns m ts=some (l,r)->ns.length+b<1000000->∀(L:List Tok) (k e i j:Nat) (nm:SV) (G:GV) (a c n:Int),L.length<1000000000000->i<1000->j<1000->Bh 23 n=m->(0<m/\m<=100)->NmP nm ns->NG G->L.drop k=ts ->
 ∃k' Δ,L.drop k'=r/\NG Δ/\Ad 157 (rdR L k e nm i j::(G++[Ph a c n .nils])) [.gp 0 0,.gp (G.length+1) 0] (.ret (.tup [])) (rdR L k' e nm i j::(G++Ph a c n (.dsl 5 (l.map fun t=>tv (t.tm i j)))::Δ))
section
variable{T:TF}{b:Nat}{ns:List By}{k0 e i j:Nat}{L ts r:List Tok}{nm:SV}{G:GV}{lt:LT}
theorem A6x(hG:GvC T b)(Eb:ns.length+2+b<1000000)(hL:L.length<1000000000000)(hi:i<1000)(hj:j<1000)(hnm:NmP nm ns)(hN:NG G)(hd:L.drop k0=ts)(h:Fl T ns 23 [83,76,77] {} ts=some (lt,r)):LC 23 [83,76,77] L k0 e i j nm G lt r:=by
 obtain⟨y0,r0,h0,h⟩:=Bp h;obtain⟨u,n,rfl,hu,hn,rfl⟩:=Alj h0;obtain⟨y1,r1,h1,h⟩:=Bp h;obtain⟨a1,t1,rfl⟩:=Aaz h1;obtain⟨y2,r2,h2,h⟩:=Bp h;obtain⟨a2,r3,l,t2,t3,rfl⟩:=Ali h2;obtain⟨z,r',rfl,hz,Ab⟩:=Hs h;cases Ab;have hnl:n<21:=(List.getElem?_eq_some_iff.1 (Tj hn).1).1;obtain⟨Ry,Dr⟩:=Ag0 n hnl;have c1:=Iv (e:=e) (i:=i) (j:=j) (nm:=nm) (G:=G) hd hL;rw[hu] at c1;have c2:=Awe hn;obtain⟨q1,d1,c3⟩:=Adw (e:=e) (nm:=nm) (G:=G) (Ar hd) hL hi hj t1;obtain⟨q2,d2,c4⟩:=Adw (e:=e) (nm:=nm) (G:=G++[Ph (a1.ev i j:Nat) 0 ((n+1:Nat):Int) .nils]) d1 hL hi hj t2;obtain⟨q3,D,d3,gD,c5⟩:=hG ns r3 _ l (arN (n+1)) t3 (by omega) L q2 e i j nm G (a1.ev i j:Nat) (a2.ev i j:Nat) ((n+1:Nat):Int) hL hi hj Ry (Aqg n hnl) hnm hN d2;have ce:=Iv (e:=e) (i:=i) (j:=j) (nm:=nm) (G:=G++Ph (a1.ev i j:Nat) (a2.ev i j:Nat) ((n+1:Nat):Int) (.dsl 5 (l.map fun t=>tv (t.tm i j)))::D) d3 hL;rw[hz] at ce;refine⟨_,Ph (a1.ev i j:Nat) (a2.ev i j:Nat) ((n+1:Nat):Int) (.dsl 5 (l.map fun t=>tv (t.tm i j)))::D,Ar d3,.cons (Afd (.dsl _ _ (fun x hx=>by
  obtain⟨q,hq,hx⟩:=List.mem_flatten.1 hx;obtain⟨t,_,rfl⟩:=List.mem_map.1 hq;exact Un _ x hx))) gD,?_⟩
 have eT:LT.tm i j (.nd 23 a1 a2 (n+1) l)=.mk 23 (a1.ev i j:Nat) (a2.ev i j:Nat) ((n+1:Nat):Int) (l.map (LT.tm i j)):=by simp[LT.tm,Af7]
 change Ad _ _ _ (.ret (.agg true (tv (LT.tm i j (.nd 23 a1 a2 (n+1) l))))) _;rw[eT,Am,List.map_map];have n0:(((n+1:Nat):Int)==0)=false:=by rw[beq_eq_false_iff_ne];omega
 have i0:∀(x y:List SV) (D:GV),(x::(G++y::D))[G.length+1]?=some y:=fun x y D=>by simp
 have i1:∀(x y y':List SV) (D:GV),(x::(G++y::D)).set (G.length+1) y'=x::(G++y'::D):=fun x y y' D=>by simp
 refine Aq mixed Tryz.func152 tr152 ?_;have hnn:nm=.nils\/∃R,nm=.dsl 1 R:=by rcases hnm with⟨h,_⟩|h;exact .inl h;exact .inr ⟨_,h⟩
 unfold Ph at c4 c5 ce |-;unfold rdR at c1 c3 c4 c5 ce |-;clear hnm hG;rcases hnn with rfl|⟨Rn,rfl⟩
 all_goals
  simp only[go_sem,seval];refine Cd 4 (Ak ?_);simp only[go_sem,seval,u83,u76,u77];refine Ac c1 ?_;simp only[go_sem,seval,u83,u76,u77];refine Aa c2 ?_;simp only[go_sem,seval,n0,u83,u76,u77];refine Ak ?_;simp only[go_sem,seval,u83,u76,u77];refine Ac c3 ?_;simp only[go_sem,seval,u83,u76,u77];refine Cr (.promo _ 2 _ _ _ rfl rfl rfl rfl rfl rfl (by simp) (by simp) (by simp[Oc,In]) (fun q ob' h1 h2 h3 h4=>?_)) ?_
  ·match q,h1 with
   |0,h1=>cases h1;cases h3
   |1,h1=>cases h1;cases h4
   |2,_=>exact absurd rfl h2
   |q+3,h1=>simp at h1
  simp only[q_h,q_i,Gd,reduceIte,Nat.reduceEqDiff,List.set_cons_zero,List.set_cons_succ];refine Ak ?_;simp only[go_sem,seval,Eu,u83,u76,u77];refine Ac c4 ?_;simp only[go_sem,seval,i0,i1,Eu,u83,u76,u77];refine Ac c5 ?_;simp only[go_sem,seval,i0,i1,Eu,u83,u76,u77];refine Ak ?_;simp only[go_sem,seval,i0,i1,Eu,u83,u76,u77];refine Ac ce ?_;simp only[go_sem,seval,i0,i1,Eu,List.length_cons,List.length_nil];rfl
end
section
variable{L:List Tok}{k e i j:Nat}{nm:SV}{G:GV}{ts r:List Tok}
theorem A3s{t:Tok}{x:Tm}{want:Int}{D:GV}(h:L.drop k=t::r)(hL:L.length<1000000000000)(ht:t.k=3)(hn:Ad 149 (rdR L k e nm i j::G) [.gp 0 0] (.ret (.agg true (tv x))) D) :
  Ad 139 (rdR L k e nm i j::G) [.gp 0 0,.int .i64 want] (.ret (.agg true (tv x))) D:=by
 obtain⟨a1,a2,a3,a4,a5,a6,a7,a8,a9,a10⟩:=Dk h;have a10:=a10 hL;have hz:=Af x;rw[ht] at a4;refine Aq mixed Tryz.func139 tr139 ?_;unfold rdR at hn |-;simp only[go_sem,seval,a1,a2,a3,a4,a8,a9,a10,forall_const,q_g];refine Ac hn ?_;simp only[go_sem,seval,hz]
theorem A3r{t u:Tok}{x:Tm}{want:Int}{kk:Nat}{s:By}{D:GV}(h:L.drop k=t::u::ts)(hL:L.length<1000000000000)(ht:t.k=1)(hu:u.k=3)(hf:Rj u.w Rk=some (kk,s))(hk:kk=1\/13<=kk)(hw:want=0\/want=2)
  (hl:Ad 152 (rdR L (k+1+1) e nm i j::G) [.gp 0 0,.int .i64 kk,.str (bs s)] (.ret (.agg true (tv x))) D) :
  Ad 139 (rdR L k e nm i j::G) [.gp 0 0,.int .i64 want] (.ret (.agg true (tv x))) D:=by
 obtain⟨a1,a2,a3,a4,a5,a6,a7,a8,a9,a10⟩:=Dk h;have a10:=a10 hL;have hz:=Af x;have c1:=Iv (e:=e) (i:=i) (j:=j) (nm:=nm) (G:=G) h hL;have c2:=Iv (e:=e) (i:=i) (j:=j) (nm:=nm) (G:=G) (Ar h) hL;have c3:=Aub hf;rw[ht] at c1 a4;rw[hu] at c2;have n0:((kk:Int)==0)=false:=by rw[beq_eq_false_iff_ne];omega
 refine Aq mixed Tryz.func139 tr139 ?_;unfold rdR at c1 c2 hl |-;simp only[go_sem,seval,a1,a2,a3,a4,a8,a9,a10,forall_const,q_g];refine Ac c1 ?_;simp only[go_sem,seval];refine Ac c2 ?_;simp only[go_sem,seval];refine Aa c3 ?_;rcases hk with rfl|hk
 ·rcases hw with rfl|rfl <;>
   (simp only[go_sem,seval]
    refine Ac hl ?_;simp only[go_sem,seval,hz])
 ·rcases hw with rfl|rfl <;>
   (simp only[go_sem,seval,n0,decide_eq_true (show (kk:Int) > 12 by omega),decide_eq_true (show (kk:Int) > 2 by omega),decide_eq_false (show ¬(kk:Int)<=12 by omega)]
    refine Ac hl ?_;simp only[go_sem,seval,hz])
end
theorem Bgf(hG:∀T b,TC T b->GvC T b):∀f,TC (Iq f) (2*f):=by
 intro f
 induction f with
 |zero=>intro ns ts r lt h;cases h
 |succ f ih=>
  intro ns ts r lt h Eb L k e i j nm G want hL hi hj hw hnm hN hd
  match ts,h with
  |[],h=>cases h
  |t::r1,h=>
   unfold Iq at h;dsimp only at h;split at h
   ·rename_i ht;cases hn:Jz t.w ns with
    |none=>rw[hn] at h;cases h
    |some n=>
     rw[hn] at h;cases h;have As:nm=nmV ns:=by
      rcases hnm with⟨_,rfl⟩|h
      ·cases hn
      ·exact h
     subst As;refine⟨k+1,[],Ar hd,NG.nil,?_⟩;rw[List.append_nil];exact A3s hd hL ht (A3a hd hL hn (by omega))
   ·split at h
    ·rename_i ht
     match r1,h with
     |[],h=>cases h
     |u::r2,h=>
      dsimp only at h;split at h
      ·rename_i hu;have Fh:=Ar (Ar hd);cases hf:Rj u.w Rk with
       |none=>rw[hf] at h;cases h
       |some p=>
        obtain⟨kk,s⟩:=p;rw[hf] at h;dsimp only at h;have key:LC kk s L (k+1+1) e i j nm G lt r->(kk=1\/13<=kk)->∃k' D,L.drop k'=r/\NG D/\Ad 139 (rdR L k e nm i j::G) [.gp 0 0,.int .i64 want] (.ret (.agg true (tv (lt.tm i j)))) (rdR L k' e nm i j::(G++D)):=fun hl hk=>by
         obtain⟨k',D,g1,g0,g2⟩:=hl;exact⟨k',D,g1,g0,A3r hd hL ht hu hf hk hw g2⟩
        have hmem:=Add hf;simp only[Rk,List.mem_cons,List.not_mem_nil,or_false,Prod.mk.injEq] at hmem;rcases hmem with⟨hq,rfl,rfl⟩|⟨hq,rfl,rfl⟩|⟨hq,rfl,rfl⟩|⟨hq,rfl,rfl⟩|⟨hq,rfl,rfl⟩|⟨hq,rfl,rfl⟩|⟨hq,rfl,rfl⟩|⟨hq,rfl,rfl⟩|⟨hq,rfl,rfl⟩|⟨hq,rfl,rfl⟩|⟨hq,rfl,rfl⟩|⟨hq,rfl,rfl⟩
        ·exact key (A6v hL hi hj Fh h) (.inl rfl)
        ·exact key (Ae6 ih (by omega) hL hi hj hnm hN (by decide) Fh h) (.inr (by decide))
        ·exact key (Ae6 ih (by omega) hL hi hj hnm hN (by decide) Fh h) (.inr (by decide))
        ·exact key (Aln ih (by omega) hL hi hj hnm hN (by decide) Fh h) (.inr (by decide))
        ·exact key (Ae6 ih (by omega) hL hi hj hnm hN (by decide) Fh h) (.inr (by decide))
        ·exact key (A6y ih (by omega) hL hi hj hnm hN (by decide) Fh h) (.inr (by decide))
        ·exact key (lc_t ih (by omega) hL hi hj hnm hN (by decide) Fh h) (.inr (by decide))
        ·exact key (lc_t ih (by omega) hL hi hj hnm hN (by decide) Fh h) (.inr (by decide))
        ·exact key (A6w ih (by omega) hL hi hj hnm hN (by decide) Fh h) (.inr (by decide))
        ·exact key (Aln ih (by omega) hL hi hj hnm hN (by decide) Fh h) (.inr (by decide))
        ·exact key (lc_j ih (by omega) hL hi hj hnm hN (by decide) Fh h) (.inr (by decide))
        ·exact key (A6x (hG _ _ ih) (by omega) hL hi hj hnm hN Fh h) (.inr (by decide))
      ·cases h
    ·cases h
open Go Go.RowKit
theorem GRow.swap{m m':Mem}{w:World}{b:Nat}{row:List SV}(h:GRow m w b row)(hc:m'.c=m.c)(hp:∀b,m.p b->m'.p b)(hn:∀x∈row,NoG x):GRow m' w b row:=by
 cases h with
 |cells _ c e h1 h2 h3 h4=>exact .cells _ c e h1 h2 (fun k v x hv hx=>⟨(h3 k v x hv hx).1.swap hc hp (hn x (List.mem_of_getElem? hx)),(h3 k v x hv hx).2⟩) h4
 |map es k l=>have:=hn .undef (by simp[Hg]);cases this
theorem A5r{E:Env}{vs:List Value}{args:List SV}{k:Nat}(Ah:vs.length=args.length)(Bq:∀(j:Nat) v x,vs[j]?=some v->args[j]?=some x->RelV E v x)(i:Nat) :
  RelV E ((vs.toArray++Array.replicate (k-vs.toArray.size) undef).getD i undef) ((args++List.replicate (k-args.length) SV.undef).getD i .undef):=by
 rcases Nat.lt_or_ge i vs.length with hi|hi
 ·have h1:(vs.toArray++Array.replicate (k-vs.toArray.size) undef).getD i undef=vs[i]:=by
   rw[Array.getD_eq_getD_getElem?,Array.getElem?_append_left (by simpa using hi)];simp[hi]
  have h2:(args++List.replicate (k-args.length) SV.undef).getD i .undef=args[i]'(by omega):=by
   rw[List.getD_eq_getElem?_getD,List.getElem?_append_left (by omega),q_f (by omega)];rfl
  rw[h1,h2];exact Bq i _ _ (q_f hi) (q_f (by omega))
 ·have h1:(vs.toArray++Array.replicate (k-vs.toArray.size) undef).getD i undef=undef:=by
   rw[Array.getD_eq_getD_getElem?,Array.getElem?_append_right (by simpa using hi)];simp only[Array.getElem?_replicate];split<;>rfl
  have h2:(args++List.replicate (k-args.length) SV.undef).getD i .undef=.undef:=by
   rw[List.getD_eq_getElem?_getD,List.getElem?_append_right (by omega),List.getElem?_replicate];split<;>rfl
  rw[h1,h2];exact .undef
def Hf(row:List SV)(cl:Bool):Ob:={ box:=true,sz:=row.length,els:=[row],frz:=0,gen:=777,cl:=cl }
def Pin (bt:Nat)(E:Env):Prop:=∃ob,E.H 1=some ob/\777<=ob.gen/\(ob.gen=777->E.β 1=bt)
instance stb_pin (bt:Nat):Nonempty (StB (Pin bt)):=⟨⟨fun E E' h ⟨ob,h1,h2,h3⟩=>by
  obtain⟨ob',k1,_,k3,k4⟩:=h.H 1 ob h1;exact⟨ob',k1,by omega,fun e=>by rw[(k4 (by omega)).1];exact h3 (by omega)⟩,fun E E' h hb ⟨ob,h1,h2,h3⟩=>⟨ob,h 1 ob h1 h2,h2,fun e=>by rw[hb];exact h3 e⟩⟩⟩
def Abo(rs:List AR)(G':GV)(row':List SV)(s:St):Prop:=
 match Mv s rs with
 |some (p,[],h)=>p/\gOf h=some G'/\∃r1 cl h2,h[1]?=some (Hf r1 cl)/\0<r1.length/\Bx h (.agg false r1)=some (.agg true row',h2)/\h2[1]?=h[1]?
 |_=>False
def rtL(rs:List AR)(G':GV)(row':List SV):AE->St->Prop:=fun e s=>match e with|.exit _=>False|_=>Abo rs G' row' s
def Apg(C:CT)(f:AF)(R:List SV)(G:GV)(row:List SV)(G':GV)(row':List SV):Prop:=
 vc C f.body (rtL f.res G' row') { sl:=[.gp 0 0,.ref 1 777 0 0]++List.replicate (f.ntmps-2) .undef,hp:=[gOb (R::G),Hf row true] }
theorem A3w{P:Program}{f:Nat}{fn:Func}{af:AF}{R R' row row':List SV}{G D:GV}(hm:P.follows .mixedOrders=true)(hf:P.funcs[f]?=some fn)(htr:trF P fn=some af)
  (hn:∀r∈R::(G++[row]),∀x∈r,NoG x) (Ud:∀r∈R'::(G++D),∀x∈r,NoG x) (Fz:∀x∈row',NoG x) (Iu:0<row.length)
  (h:Apg (Av P fun _ _=>False) af R G row (R'::(G++D)) row'):HContract P f (R::(G++[row])) [.gp 0 0,.gp (G.length+1) 0] (.ret (.tup [])) (R'::(G++row'::D)):=by
 intro m w vs hmem hsat Ah Bq;unfold trF at htr;split at htr;rotate_left
 ·cases htr
 rename_i c hb;simp only[q_c,q_a,q_d,q_b] at htr;obtain⟨ars,Gt,ac,Li,rfl⟩:=htr
 match vs,Ah with
 |[v0,v1],_=>
 have r0:=Bq 0 v0 _ rfl rfl;have r1:=Bq 1 v1 _ rfl rfl;cases r0 with
 |gp _ _ b0 d0 p0=>
 cases r1 with
 |gp _ _ bt dt pt=>
 have Aaa:(R::(G++[row]))[G.length+1]?=some row:=by simp
 have hlenG:(R::(G++[row])).length=G.length+2:=by simp
 have Bt:=hsat.row _ _ _ Aaa dt;have Akp:∀x∈row,NoG x:=hn row (by simp);cases Bt with
 |map es k l=>have:=Akp .undef (by simp[Hg]);cases this
 |cells _ cb eb Tp Bl hcells honeAll=>
 let own:Nat->Prop:=fun b=>∃i,m.d i=some b
 let m1:Mem:=⟨m.c,fun i=>if i<G.length+1 then m.d i else none,m.p,fun i j b hi hj=>by
  split at hi
  ·split at hj
   ·exact m.inj i j b hi hj
   ·cases hj
  ·cases hi⟩
 have Ez:∀i b,m1.d i=some b->i<G.length+1/\m.d i=some b:=fun i b hi=>by
  simp only[m1] at hi;split at hi
  ·exact⟨‹_›,hi⟩
  ·cases hi
 have Yk:∀i b,i<G.length+1->m.d i=some b->m1.d i=some b:=fun i b hi hd=>by simp only[m1,if_pos hi];exact hd
 let E0:Env:={ m:=m1,m0:=m1,H:=fun o=>if o=1 then some (Hf row true) else none,β:=fun _=>bt,t:=fun o=>if o=1 then cb.size else 0 }
 have hH0:∀o ob,E0.H o=some ob->o=1/\ob=Hf row true:=fun o ob ho=>by
  simp only[E0] at ho;split at ho
  ·cases ho;exact⟨‹_›,rfl⟩
  ·cases ho
 have Ajr:∀(k:Nat) (v:Value) (x:SV),cb[k]?=some v->row[k]?=some x->Rep m1 v x:=fun k v x hv hx=>(hcells k v x hv hx).1.swap (m:=m) (m':=m1) rfl (fun _ h=>h) (Akp x (List.mem_of_getElem? hx))
 have hW:W w own E0 w:=by
  refine⟨rfl,rfl,rfl,Nat.le_refl _,fun _ _ _=>rfl,hmem.1,fun o ob ho=>?_,fun o o' ob ob' h1 h2 As=>?_,fun _ _ _ _=>rfl,hmem.2⟩
  ·obtain⟨rfl,rfl⟩:=hH0 o ob ho;refine⟨by simp[Hf],by simp[Hf],by simpa [Hf,E0] using Bl,fun _=>by simp[Hf],by simp[Hf],fun _=>⟨cb,eb,⟨Tp,by simp[E0],.inr ⟨_,dt⟩,fun k v x hv hx=>.rep _ _ (Ajr k v x hv (by simpa [Hf] using hx)),honeAll,fun k hk=>by simp[Hf] at hk,fun k _=>hsat.free _ _ k dt,fun _ k v x hv hx=>Ajr k v x hv (by simpa [Hf] using hx),pt⟩⟩⟩
  ·exact absurd ((hH0 _ _ h1).1.trans (hH0 _ _ h2).1.symm) As
 have hsat1:GSat m1 w (R::G):=by
  refine⟨fun i=>?_,m1.inj,fun i r b hr hb=>?_,fun i b j hi=>hsat.free i b j (Ez i b hi).2⟩
  ·constructor
   ·intro hi;have Bw:i<G.length+1:=by simpa using hi
    obtain⟨b,hb⟩:=(hsat.dom i).1 (by omega);exact⟨b,Yk i b Bw hb⟩
   ·rintro ⟨b,hb⟩;have:=(Ez i b hb).1;simpa using this
  ·have hi:=(Ez i b hb).1;have Gn:(R::(G++[row]))[i]?=some r:=by
    rw[show R::(G++[row])=(R::G)++[row] by simp,List.getElem?_append_left (by simpa using hi)];exact hr
   exact (hsat.row i r b Gn (Ez i b hb).2).swap rfl (fun _ h=>h) (hn r (List.mem_of_getElem? Gn))
 have hobs0:∀i b,m1.d i=some b->bt≠b:=fun i b hi e=>by
  subst e;have:=m.inj i (G.length+1) bt (Ez i bt hi).2 dt;have:=(Ez i bt hi).1;omega
 have hS:SR w own m1 (Pin bt) [] E0 (some (R::G)) { sl:=[.gp 0 0,.ref 1 777 0 0]++List.replicate (fn.ntmps-2) .undef,hp:=[gOb (R::G),Hf row true] } { tmps:=[Value.pointer (some ⟨b0,0,none⟩),Value.pointer (some ⟨bt,0,none⟩)].toArray++Array.replicate (fn.ntmps - [Value.pointer (some ⟨b0,0,none⟩),Value.pointer (some ⟨bt,0,none⟩)].toArray.size) undef,defers:=[] } w:=by
  refine⟨hW,⟨rfl,hsat1,fun i b hi=>.inr ⟨i,(Ez i b hi).2⟩,fun i b o ob hi ho _=>hobs0 i b hi⟩,fun o=>?_,by simp;omega,A5r (args:=[.gp 0 0,.ref 1 777 0 0]) rfl (fun j v x hv hx=>?_),rfl,rfl,.refl _,(fun h=>by cases h),fun _=>⟨_,rfl,Nat.le_refl _,fun _=>rfl⟩⟩
  ·match o with
   |0=>rfl
   |1=>rfl
   |o+2=>rfl
  ·match j,hv,hx with
   |0,hv,hx=>cases hv;cases hx;exact .rep _ _ (.gp _ _ _ (Yk 0 _ (by omega) d0) p0)
   |1,hv,hx=>cases hv;cases hx;exact .ref 1 777 0 0 bt 0 (Hf row true) rfl (Nat.le_refl _) (fun _=>⟨rfl,by simp⟩)
   |j+2,hv,hx=>cases hv
 refine calls_of_wp hf hb ?_;have fin:∀(E:Env) (g:Option (GV)) (s:St) (a:Act) (w':World),SR w own m1 (Pin bt) [] E g s a w'->Abo ars (R'::(G++D)) row' s->a.defers=[]/\∃v,(results fn a.tmps).run P w'=.ok v w'/\∃m',Su m' (.returned v) (.ret (.tup []))/\m.le m'/\(∀b j,b<w.heap.size->m' b j=m b j)/\Hv m' w'/\GSat m' w' (R'::(G++row'::D)) /\
   (∀i b,m'.d i=some b->m.d i=some b\/w.heap.size<=b)/\w'.os=w.os/\w'.tape=w.tape/\w'.output=w.output/\w.heap.size<=w'.heap.size/\∀k,k<w.heap.size->(∀i,m.d i≠some k)->w'.heap[k]?=w.heap[k]?:=by
  intro E g s a w' hS hr;refine⟨hS.dfr,?_⟩;unfold Abo at hr;split at hr;rotate_left
  ·exact hr.elim
  rename_i p hp' Iz;obtain⟨hp,hG,q1,cl,h2,Uf,hqpos,hcl,Fa⟩:=hr;obtain⟨us,E',k1,k2,k3,k4,k5⟩:=Ux fn.results.toList ars p [] hp' E s Gt Iz hp hS;have:=My (U:=fun _=>True) (s:={ s with hp:=hp' }) (fun o _=>k4.hp o) trivial k4.wo hG;subst this;have hH1:E'.H 1=some (Hf q1 cl):=by
   have:=k4.hp 1;simp only[Env.view] at this;rw[Uf] at this;simpa using this
  have hko:=k4.wo.obs 1 _ hH1;have Db:=hko.fit;simp only[Hf,List.length_singleton,Nat.one_mul] at Db;obtain⟨c1,e1,hl1⟩:=hko.live (by omega);have Aeb:(c1.toList.take q1.length).length=q1.length:=by
   have:=hl1.size;rw[List.length_take];exact Nat.min_eq_left (show q1.length<=c1.size by omega)
  have Fb:RelV E' (.agg (c1.toList.take q1.length).toArray) (.agg false q1):=by
   refine .agg _ _ (fun v hv=>?_) Aeb (fun j v x hv hx=>?_)
   ·obtain⟨j,hj⟩:=List.getElem?_of_mem (List.mem_of_mem_take hv);exact hl1.one j v (by simpa using hj)
   ·rw[List.getElem?_take] at hv;split at hv
    ·exact hl1.rel j v x (by simpa using hv) (by simpa [Hf] using hx)
    ·cases hv
  obtain⟨E1,Akv,st⟩:=p9 (s:={ s with hp:=hp' }) (U:=fun _=>True) k4.wo k4.gx (fun o _=>k4.hp o) hcl Fb (fun _ _=>trivial);have hS1:=k4.closed st;have hH2:E1.H 1=some (Hf q1 cl):=by
   have:=hS1.hp 1;simp only[Env.view] at this;rw[Fa,Uf] at this;simpa using this
  have Aen:E1.β 1=bt:=by
   obtain⟨ob,p1,_,p3⟩:=hS1.hb rfl;rw[hH2] at p1;cases p1;exact p3 rfl
  have hpin0:E'.β 1=bt:=by
   obtain⟨ob,p1,_,p3⟩:=k4.hb rfl;rw[hH1] at p1;cases p1;exact p3 rfl
  have hko2:=hS1.wo.obs 1 _ hH2;have Or:=hko2.fit;simp only[Hf,List.length_singleton,Nat.one_mul] at Or;have Gv:0<E1.t 1:=by omega
  obtain⟨c2,e2,hl2⟩:=hko2.live Gv;have hg1:GI w.heap.size own E1 w' (R'::(G++D)):=hS1.gx;have Ajn:=hl1.blk;have hblk2:=hl2.blk;rw[hpin0] at Ajn;have Aka:∀k,E1.m bt k=none:=fun k=>by rw[<-Aen];exact hl2.free k (by simp[Hf])
  have Nr:E1.m.p bt:=by rw[<-Aen];exact hl2.pl
  have Ea:∀i b,E1.m.d i=some b->b≠bt:=fun i b hi e=>hg1.obs i b 1 _ hi hH2 Gv (by rw[Aen,e])
  have Adj:(R'::(G++D)).length=G.length+1+D.length:=by simp;omega
  have Adz:=hg1.sat.dom
  let dd:Nat->Option Nat:=fun i=>if i<G.length+1 then E1.m.d i else if i=G.length+1 then some bt else E1.m.d (i-1)
  have Gi:∀i b,dd i=some b->(i<G.length+1/\E1.m.d i=some b)\/(i=G.length+1/\b=bt)\/(G.length+1<i/\E1.m.d (i-1)=some b):=fun i b hi=>by
   simp only[dd] at hi;split at hi
   ·exact .inl ⟨‹_›,hi⟩
   ·split at hi
    ·cases hi;exact .inr (.inl ⟨‹_›,rfl⟩)
    ·exact .inr (.inr ⟨by omega,hi⟩)
  let m':Mem:=⟨E1.m.c,dd,E1.m.p,fun i j b hi hj=>by
   rcases Gi i b hi with⟨a1,a2⟩|⟨a1,a2⟩|⟨a1,a2⟩<;>rcases Gi j b hj with⟨b1,b2⟩|⟨b1,b2⟩|⟨b1,b2⟩
   ·exact E1.m.inj i j b a2 b2
   ·exact absurd b2 (Ea _ _ a2)
   ·have:=E1.m.inj _ _ b a2 b2;omega
   ·exact absurd a2 (Ea _ _ b2)
   ·omega
   ·exact absurd a2 (Ea _ _ b2)
   ·have:=E1.m.inj _ _ b a2 b2;omega
   ·exact absurd b2 (Ea _ _ a2)
   ·have:=E1.m.inj _ _ b a2 b2;omega⟩
  have Aj1:∀i b,i<G.length+1->E1.m.d i=some b->m'.d i=some b:=fun i b hi hd=>by show dd i=_;simp only[dd,if_pos hi];exact hd
  have Ru:m'.d (G.length+1)=some bt:=by show dd _=_;simp[dd]
  have hdgt:∀i b,G.length+1<=i->E1.m.d i=some b->m'.d (i+1)=some b:=fun i b hi hd=>by
   show dd _=_;simp only[dd,if_neg (show ¬i+1<G.length+1 by omega),if_neg (show ¬i+1=G.length+1 by omega),Nat.add_sub_cancel];exact hd
  have hle1:=hS1.le;refine⟨_,Uw k1,m',⟨_,rfl,((Uq (r:=.tup []) rfl k2 k3).mono st.ext.m).swap (m:=E1.m) (m':=m') rfl (fun _ h=>h) (.tup _ (fun x hx=>by cases hx))⟩,⟨hle1.c,fun i b hi=>?_,hle1.p⟩,fun b j hb=>?_,⟨hS1.wo.mem,hS1.wo.pl⟩,⟨fun i=>?_,m'.inj,fun i r b hr hb=>?_,fun i b j hi=>?_⟩,fun i b hi=>?_,hS1.wo.os,hS1.wo.tape,hS1.wo.output,hS1.wo.size,fun k hk hnk=>hS1.wo.block k hk (fun ⟨i,hi⟩=>hnk i hi)⟩
  ·rcases Nat.lt_trichotomy i (G.length+1) with h1|h1|h1
   ·exact Aj1 i b h1 (hle1.d _ _ (Yk i b h1 hi))
   ·subst h1;rw[Ru,<-dt];exact hi
   ·have:=(hsat.dom i).2 ⟨b,hi⟩;omega
  ·by_cases ho:own b
   ·obtain⟨i,hi⟩:=ho;rw[hsat.free i b j hi];rcases Nat.lt_trichotomy i (G.length+1) with h1|h1|h1
    ·exact hg1.sat.free i b j (hle1.d _ _ (Yk i b h1 hi))
    ·subst h1;rw[dt] at hi;cases hi;exact Aka j
    ·have:=(hsat.dom i).2 ⟨b,hi⟩;omega
   ·show E1.m b j=_;rw[hS1.wo.keep b j hb ho,hS1.z]
  ·have hL:(R'::(G++row'::D)).length=G.length+2+D.length:=by simp;omega
   rw[hL];constructor
   ·intro hi;rcases Nat.lt_trichotomy i (G.length+1) with h1|h1|h1
    ·obtain⟨b,hb⟩:=(Adz i).1 (by rw[Adj];omega);exact⟨b,Aj1 i b h1 hb⟩
    ·subst h1;exact⟨bt,Ru⟩
    ·obtain⟨b,hb⟩:=(Adz (i-1)).1 (by rw[Adj];omega);have:=hdgt (i-1) b (by omega) hb;rw[show i-1+1=i by omega] at this;exact⟨b,this⟩
   ·rintro ⟨b,hb⟩;rcases Gi i b hb with⟨a1,_⟩|⟨a1,_⟩|⟨a1,a2⟩
    ·omega
    ·omega
    ·have:=(Adz (i-1)).2 ⟨b,a2⟩;rw[Adj] at this;omega
  ·rcases Gi i b hb with⟨a1,a2⟩|⟨a1,a2⟩|⟨a1,a2⟩
   ·have Gn:(R'::(G++D))[i]?=some r:=by
     rw[show R'::(G++D)=(R'::G)++D by simp,List.getElem?_append_left (by simpa using a1)];rw[show R'::(G++row'::D)=(R'::G)++row'::D by simp,List.getElem?_append_left (by simpa using a1)] at hr;exact hr
    exact (hg1.sat.row i r b Gn a2).swap rfl (fun _ h=>h) (Ud r (List.mem_of_getElem? Gn))
   ·subst a1 a2;have Gn:row'=r:=by simpa using hr
    subst Gn;generalize hv0:Value.agg (c1.toList.take q1.length).toArray=v0 at Akv;cases Akv with
    |agg ws _ z0 z1 z2=>
    have hws:c1.toList.take q1.length=ws:=by simpa using hv0
    subst hws;refine .cells _ c1 e1 Ajn (by rw[<-z1,Aeb];have:=hl1.size;omega) (fun k v x hv hx=>⟨(z2 k v x ?_ hx).swap (m:=E1.m) (m':=m') rfl (fun _ h=>h) (Fz x (List.mem_of_getElem? hx)),hl1.one k v hv⟩) hl1.one;have hk:=(List.getElem?_eq_some_iff.1 hx).1;rw[List.getElem?_take,if_pos (by rw[<-z1,Aeb] at hk;exact hk)];simpa using hv
   ·have Gn:(R'::(G++D))[i-1]?=some r:=by
     rw[show R'::(G++D)=(R'::G)++D by simp,List.getElem?_append_right (by simp;omega)];rw[show R'::(G++row'::D)=(R'::G++[row'])++D by simp,List.getElem?_append_right (by simp;omega)] at hr;rw[<-hr];congr 1;simp;omega
    exact (hg1.sat.row (i-1) r b Gn a2).swap rfl (fun _ h=>h) (Ud r (List.mem_of_getElem? Gn))
  ·rcases Gi i b hi with⟨a1,a2⟩|⟨a1,a2⟩|⟨a1,a2⟩
   ·exact hg1.sat.free i b j a2
   ·subst a2;exact Aka j
   ·exact hg1.sat.free _ b j a2
  ·have own_lt:∀i b,own b->E1.m.d i=some b->i<G.length+1/\m.d i=some b:=fun i b ⟨i',Bw⟩ he=>by
    rcases Nat.lt_trichotomy i' (G.length+1) with h1|h1|h1
    ·have:=E1.m.inj i i' b he (hle1.d _ _ (Yk i' b h1 Bw));subst this;exact⟨h1,Bw⟩
    ·subst h1;rw[dt] at Bw;cases Bw;exact absurd rfl (Ea _ _ he)
    ·have:=(hsat.dom i').2 ⟨b,Bw⟩;omega
   rcases Gi i b hi with⟨a1,a2⟩|⟨a1,a2⟩|⟨a1,a2⟩
   ·rcases hg1.new i b a2 with h|h
    ·exact .inr h
    ·exact .inl (own_lt i b h a2).2
   ·subst a1 a2;exact .inl dt
   ·rcases hg1.new _ b a2 with h|h
    ·exact .inr h
    ·have:=(own_lt _ b h a2).1;omega
 refine Of (X:=fun _ _=>False) hm c ac Li (fun _ _ _ _ _ _ h=>h.elim) (fun e E g s a w' hS he=>?_) E0 (some (R::G)) _ _ w hS h;cases e with
 |normal=>exact fin E g s a w' hS he
 |exit id=>exact he.elim
 |ret=>exact fin E g s a w' hS he
theorem Beu{rs:List AR}{G':GV}{row:List SV}{s:St}:rtL rs G' row .normal s=Abo rs G' row s:=q_z
theorem A7u{T:TF}{b:Nat}(hT:TC T b){ns:List By}{L:List Tok}{e i j:Nat}{nm:SV}{G:GV}(Eb:ns.length+b<1000000)(hL:L.length<1000000000000)(hi:i<1000)(hj:j<1000)(hnm:NmP nm ns)(hN:NG G):∀(m:Nat) (ts r:List Tok) (l:List LT) (k:Nat) (D:GV),Mr T ns m ts=some (l,r)->NG D->L.drop k=ts ->
  ∃(K:Nat->Nat) (Ds:Nat->GV),K 0=k/\Ds 0=D/\L.drop (K m)=r/\l.length=m/\(∀x,x<=m->NG (Ds x))/\∀x t,l[x]?=some t->Ad 139 (rdR L (K x) e nm i j::(G++Ds x)) [.gp 0 0,.int .i64 2] (.ret (.agg true (tv (t.tm i j)))) (rdR L (K (x+1)) e nm i j::(G++Ds (x+1))):=by
 intro m
 induction m with
 |zero=>
  intro ts r l k D h hD hd;rw[Mr] at h;cases h;exact⟨fun _=>k,fun _=>D,rfl,rfl,hd,rfl,fun _ _=>hD,fun x t ht=>by cases ht⟩
 |succ m ih=>
  intro ts r l k D h hD hd;rw[Mr] at h;cases ht:T ns ts with
  |none=>rw[ht] at h;cases h
  |some q=>
   obtain⟨t0,r1⟩:=q;rw[ht] at h;dsimp only at h;cases hm:Mr T ns m r1 with
   |none=>rw[hm] at h;cases h
   |some q=>
    obtain⟨l1,r2⟩:=q;rw[hm] at h;cases h;obtain⟨k1,D1,d1,g1,c1⟩:=hT ns _ _ _ ht Eb L k e i j nm (G++D) 2 hL hi hj (.inr rfl) hnm (hN.app hD) hd;obtain⟨K,Ds,e1,e2,e3,e4,e5,e6⟩:=ih r1 _ l1 k1 (D++D1) hm (hD.app g1) d1;refine⟨fun x=>if x=0 then k else K (x-1),fun x=>if x=0 then D else Ds (x-1),rfl,rfl,by simpa using e3,by simp[e4],fun x hx=>?_,fun x t hxt=>?_⟩
    ·by_cases h0:x=0
     ·simp only[if_pos h0];exact hD
     ·simp only[if_neg h0];exact e5 _ (by omega)
    ·cases x with
     |zero=>
      cases hxt;simp only[if_true,Nat.zero_add,Nat.one_ne_zero,if_false,Nat.sub_self,e1,e2];rw[List.append_assoc] at c1;exact c1
     |succ x=>
      have:=e6 x t (by simpa using hxt);simpa using this
theorem Atk{hp:List Ob}{a c n:Int}{x:Nat}{M:GV}{ob:Ob}(h:hp[3]?=some ob)(hb:ob.box=false)(hg:ob.gen=x)(hs:ob.sz=5)(hM:ob.els.take (x+1)=M) :
  Bx hp (.agg false [.int .i64 23,.int .i64 a,.int .i64 c,.int .i64 n,.osl 3 x 0 (x+1)])=some (.agg true [.int .i64 23,.int .i64 a,.int .i64 c,.int .i64 n,.dsl 5 M],fz hp 3 ob):=by
 simp[Bx,Is,Bo,h,hb,hg,hs,hM]
def gvS(L:List Tok)(e:Nat)(nm:SV)(i j:Nat)(G:GV)(K:Nat->Nat)(Ds:Nat->GV)(M:GV)(m:Nat)(a c n:Int):Nat->St
 |0=>⟨(.gp 0 0::.ref 1 777 0 0::.J::.J::.J::.J::.J::.J::.int .i64 (m:Nat)::.int .i64 0::.J::.J::.J::.J::.J::.J::.J::.J::.J::.J::.J::.J::.J::.J::[]),[gOb (rdR L (K 0) e nm i j::(G++Ds 0)),⟨true,5,[[.int .i64 23,.int .i64 a,.int .i64 c,.int .i64 n,.nils]],0,777,true⟩]⟩
 |x+1=>⟨(.gp 0 0::.ref 1 777 0 0::.J::.J::.J::.J::.J::.J::.int .i64 (m:Nat)::.int .i64 ((x+1:Nat):Int)::.J::.J::.J::.J::.J::.J::.J::.J::.J::.J::.J::.J::.J::.J::[]),[gOb (rdR L (K (x+1)) e nm i j::(G++Ds (x+1))),⟨true,5,[[.int .i64 23,.int .i64 a,.int .i64 c,.int .i64 n,.osl 3 x 0 (x+1)]],0,777,false⟩,⟨false,5,[[.int .i64 0,.int .i64 0,.int .i64 0,.int .i64 0,.nils]],0,0,true⟩,⟨false,5,M.take (x+1),x,x,true⟩]⟩
theorem A2y{T:TF}{b:Nat}(hT:TC T b):GvC T b:=by
 intro ns ts r l m hm Eb L k e i j nm G a c n hL hi hj hk h0 hnm hN hd;obtain⟨K,Ds,e1,e2,e3,e4,e5,e6⟩:=A7u (e:=e) (i:=i) (j:=j) hT Eb hL hi hj hnm hN m ts r l k [] hm NG.nil hd;have Hm:∀k',∀x∈rdR L k' e nm i j,NoG x:=fun k'=>A8w hnm.noG
 have hrow':NoG (.dsl 5 (l.map fun t=>tv (t.tm i j))):=.dsl _ _ (fun x hx=>by
  obtain⟨q,hq,hx⟩:=List.mem_flatten.1 hx;obtain⟨t,_,rfl⟩:=List.mem_map.1 hq;exact Un _ x hx)
 refine⟨K m,Ds m,e3,e5 m (Nat.le_refl _),?_⟩;refine A3w mixed Tryz.func157 tr157 (NG.cons (Hm k) (hN.app (NG.cons (Afd .nils) NG.nil))) (NG.cons (Hm _) (hN.app (e5 m (Nat.le_refl _)))) (Afd hrow') (by simp[Ph]) ?_;have Wh:=Ahr 23 n;rw[hk] at Wh;have em:(List.map (fun t:LT=>tv (t.tm i j)) l).length=m:=by simp[e4]
 have Ml:=h0.2;have hm0:=h0.1;have Fv:∀(x:Nat) (t:LT),l[x]?=some t->(l.map fun t=>tv (t.tm i j)).take x++[tv (t.tm i j)]=(l.map fun t=>tv (t.tm i j)).take (x+1):=fun x t ht=>by
  rw[List.take_add_one,List.getElem?_map,ht];rfl
 generalize hM:(l.map fun t=>tv (t.tm i j))=M at *
 unfold Apg Hf Ph;simp only[go_sem,seval];refine Aa Wh ?_;simp only[go_sem,seval];refine Jj (gvS L e nm i j G K Ds M m a c n) m (fun x hx=>?_) ?_
 ·cases x with
  |zero=>
   have Dm:0<l.length:=by omega
   have hg:l[0]?=some l[0]:=q_f Dm;have c0:=e6 0 _ hg;have hz:=Af (l[0].tm i j);have hq:=Fv 0 _ hg;rw[List.take_zero,List.nil_append] at hq;unfold gvS;simp only[go_sem,seval,decide_eq_true (show (0:Int)<(m:Int) by omega)];refine Ac c0 ?_;simp only[go_sem,seval,hz];rw[<-hq];exact⟨hm0,Au (by simp[An])⟩
  |succ x=>
   by_cases Ab:x+1<m
   ·have hg:l[x+1]?=some l[x+1]:=q_f (by omega);have c0:=e6 (x+1) _ hg;have hz:=Af (l[x+1].tm i j);have hq:=Fv (x+1) _ hg;have hw:IntKind.i64.wrap (((x+1:Nat):Int)+1)=((x+1+1:Nat):Int):=by rw[w64 (by unfold fit;omega)];omega
    unfold gvS;simp only[go_sem,seval,decide_eq_true (show ((x+1:Nat):Int)<(m:Int) by omega)];refine Ac c0 ?_;have Fq:(M.take (x+1)).length=x+1:=by rw[List.length_take];omega
    have hset:∀u v:List SV,(M.take (x+1)++[u]).set (x+1) v=M.take (x+1)++[v]:=fun u v=>by
     rw[List.set_append_right _ _ (by omega),Fq,Nat.sub_self,List.set_cons_zero]
    simp only[go_sem,seval,hz,hw,Fq,hset,hq];refine⟨⟨by omega,by omega⟩,⟨by omega,by omega⟩,by omega,Ab,?_⟩;exact Dq 4 (by simp[An]) (by simp) (by simp[Bb]) (by simp[gOb,Bb])
   ·have:m=x+1:=by omega
    subst this;unfold gvS;simp only[go_sem,seval,decide_eq_false (show ¬((x+1:Nat):Int)<((x+1:Nat):Int) by omega),Beu];have hMt:M.take (x+1)=M:=List.take_of_length_le (by omega);rw[hMt];exact⟨trivial,rfl,[.int .i64 23,.int .i64 a,.int .i64 c,.int .i64 n,.osl 3 x 0 (x+1)],false,fz _ 3 _,rfl,by simp,Atk rfl rfl rfl rfl hMt,by simp[fz]⟩
 ·unfold gvS;rw[e1,e2,List.append_nil];exact Au (by simp[An])
def lnR(tx:By)(L:List Tok)(k:Nat):List SV:=[.str (bs tx),.dsl 3 (L.map Fd),.int .i64 k]
section
variable{tx:By}{L ts r:List Tok}{G:GV}
theorem Abh{e:Nat}:∀(ts:List Tok) (d:Nat),Io d ts=some (e,r)->r.length<ts.length:=by
 intro ts
 induction ts with
 |nil=>intro d h;simp[Io] at h
 |cons t ts ih=>
  intro d h;have key:∀d',Io d' ts=some (e,r)->r.length<(t::ts).length:=fun d' h=>by have:=ih d' h;simp only[List.length_cons];omega
  have fin:∀x:Nat,some (x,ts)=some (e,r)->r.length<(t::ts).length:=fun x h=>by cases h;simp
  unfold Io at h;split at h
  ·exact key _ h
  ·split at h
   ·match d,h with
    |0,h=>cases h
    |1,h=>exact fin _ h
    |d+2,h=>exact key _ h
   ·split at h
    ·exact fin _ h
    ·exact key _ h
def pcS(tx:By)(L:List Tok)(G:GV)(from_:Nat)(k d:Nat):St:=
 ⟨(.gp 0 0::.J::.str (bs [])::.int .i64 from_::.int .i64 d::.J::.J::.J::.J::.J::.J::.J::.J::.J::.J::.J::.J::.J::.J::.J::.J::.J::.J::.J::.J::.J::.J::.J::.J::.J::.J::.J::.J::.J::.J::.J::.J::.J::.J::.J::.J::.J::.J::.J::.J::.J::.J::.J::.J::.J::.J::.J::.J::.J::.J::.J::.J::.J::[]),[gOb (lnR tx L k::G)]⟩
def PcL(tx:By)(L:List Tok)(G:GV)(from_ k d:Nat)(R:SV)(G':GV)(m:Nat):Prop:=
 vcI (Av Tryz.prog fun _ _=>False) a127_23 (bk 0 (rtG [.t 2] (.ret R) G')) m (pcS tx L G from_ k d)
theorem Ba4{from_ e kE:Nat}{r:List Tok}(hL:L.length<1000000000000)(h1:from_<=e)(h2:e<=tx.length)(Gp:tx.length<1000000):∀(ts:List Tok) (k d:Nat),Io d ts=some (e,r)->L.drop k=ts->k+(ts.length-r.length)=kE->d+ts.length<1000000000->∃q,PcL tx L G from_ k d (.str (bs ((tx.drop from_).take (e-from_)))) (lnR tx L kE::G) q:=by
 intro ts
 induction ts with
 |nil=>intro k d h;simp[Io] at h
 |cons t ts ih=>
  intro k d hp hd hE Ah;obtain⟨a1,a2,a3,a4,a5,a6,a7,a8,a9,a10⟩:=Dk hd;have a6:=a6 hL;have a7:=a7 hL;have a10:=a10 hL;simp only[List.length_cons] at hE Ah;unfold Io at hp
  by_cases k1:t.k=1
  ·rw[if_pos k1] at hp;have hle:=Abh _ _ hp;obtain⟨q,hq⟩:=ih (k+1) (d+1) hp (Ar hd) (by omega) (by omega);refine⟨q+1,Ak ?_⟩;unfold PcL pcS lnR at hq;unfold pcS lnR;have e1:((t.k:Int)==1)=true:=by rw[k1];rfl
   have e2:IntKind.i64.wrap ((d:Int)+1)=((d+1:Nat):Int):=by rw[w64 (by unfold fit;omega)];omega
   have e3:(((d+1:Nat):Int)==0)=false:=by rw[beq_eq_false_iff_ne];omega
   simp only[go_sem,seval,a1,a2,a3,a4,a6,a8,a9,a10,forall_const,q_g,e1,e2,e3];exact Cr (Dq 1 (by simp[An]) (by simp) (by simp[Bb]) (by simp[gOb])) hq
  ·rw[if_neg k1] at hp;have e1:((t.k:Int)==1)=false:=by rw[beq_eq_false_iff_ne];omega
   have Tw:∀(d1:Int),d1=0->t.p+t.w.length=e->ts=r->(t.k=2->IntKind.i64.wrap ((d:Int)-1)=d1)->(t.k≠2->(d:Int)=d1)->∃q,PcL tx L G from_ k d (.str (bs ((tx.drop from_).take (e-from_)))) (lnR tx L kE::G) q:=fun d1 Ez he hr Jc hw2=>by
    subst hr Ez;refine⟨1,Ak ?_⟩;have hkE:kE=k+1:=by omega
    subst hkE;have e4:IntKind.i64.wrap ((t.p:Int)+(t.w.length:Int))=(e:Int):=by rw[<-he,w64 (by unfold fit;omega)];omega
    unfold pcS lnR
    by_cases k2:t.k=2
    ·have e2:((t.k:Int)==2)=true:=by rw[k2];rfl
     have Jc:=Jc k2;simp only[go_sem,seval,a1,a2,a3,a4,a6,a8,a9,a10,forall_const,q_g,e1,e2,Jc,e4];omega
    ·have e2:((t.k:Int)==2)=false:=by rw[beq_eq_false_iff_ne];omega
     have hw2:=hw2 k2;rw[hw2];simp only[go_sem,seval,a1,a2,a3,a4,a6,a8,a9,a10,forall_const,q_g,e1,e2,e4];omega
   by_cases k2:t.k=2
   ·rw[if_pos k2] at hp;have e2:((t.k:Int)==2)=true:=by rw[k2];rfl
    match d,hp with
    |0,hp=>cases hp
    |1,hp=>
     cases hp;exact Tw 0 rfl rfl rfl (fun _=>rfl) (fun h=>absurd k2 h)
    |d+2,hp=>
     have hp:Io (d+1) ts=some (e,r):=hp;have hle:=Abh _ _ hp;obtain⟨q,hq⟩:=ih (k+1) (d+1) hp (Ar hd) (by omega) (by omega);refine⟨q+1,Ak ?_⟩;unfold PcL pcS lnR at hq;unfold pcS lnR;have e4:IntKind.i64.wrap (((d+2:Nat):Int)-1)=((d+1:Nat):Int):=by rw[w64 (by unfold fit;omega)];omega
     have e3:(((d+1:Nat):Int)==0)=false:=by rw[beq_eq_false_iff_ne];omega
     simp only[go_sem,seval,a1,a2,a3,a4,a6,a8,a9,a10,forall_const,q_g,e1,e2,e3,e4];exact Cr (Dq 1 (by simp[An]) (by simp) (by simp[Bb]) (by simp[gOb])) hq
   ·rw[if_neg k2] at hp;have e2:((t.k:Int)==2)=false:=by rw[beq_eq_false_iff_ne];omega
    by_cases d0:d=0
    ·rw[if_pos d0] at hp;cases hp;exact Tw 0 rfl rfl rfl (fun h=>absurd h k2) (fun _=>by omega)
    ·rw[if_neg d0] at hp;have hle:=Abh _ _ hp;obtain⟨q,hq⟩:=ih (k+1) d hp (Ar hd) (by omega) (by omega);refine⟨q+1,Ak ?_⟩;unfold PcL pcS lnR at hq;unfold pcS lnR;have e3:((d:Int)==0)=false:=by rw[beq_eq_false_iff_ne];omega
     simp only[go_sem,seval,a1,a2,a3,a4,a6,a8,a9,a10,forall_const,q_g,e1,e2,e3];exact Cr (Dq 1 (by simp[An]) (by simp) (by simp[Bb]) (by simp[gOb])) hq
theorem A3d{t:Tok}{e k kE:Nat}(hL:L.length<1000000000000)(hd:L.drop k=t::ts)(hp:Io 0 (t::ts)=some (e,r))(hE:k+((t::ts).length-r.length)=kE)(h1:t.p<=e)(h2:e<=tx.length)(Gp:tx.length<1000000)(Lo:ts.length<100000000) :
  Ad 127 (lnR tx L k::G) [.gp 0 0] (.ret (.str (bs ((tx.drop t.p).take (e-t.p))))) (lnR tx L kE::G):=by
 obtain⟨a1,a2,a3,a4,a5,a6,a7,a8,a9,a10⟩:=Dk hd;have a6:=a6 hL;have a7:=a7 hL;have a10:=a10 hL;obtain⟨q,hq⟩:=Ba4 (G:=G) hL h1 h2 Gp (t::ts) k 0 hp hd hE (by simp only[List.length_cons];omega);refine Aq mixed Tryz.func127 tr127 ?_;unfold PcL pcS at hq;unfold lnR at hq |-;simp only[go_sem,seval,a1,a2,a3,a4,a8,a9,a10,forall_const,q_g];refine Cd q ?_;exact Cr (Au (by simp[An])) hq
end
theorem Bge(f:Nat):TC (Iq f) (2*f):=Bgf (fun _ _ h=>A2y h) f
theorem A8x(t:Tm):NoG (.tup [.agg true (tv t),.int .i64 0,.int .i64 0]):=.tup _ (fun x hx=>by
 simp only[List.mem_cons,List.not_mem_nil,or_false] at hx;rcases hx with rfl|rfl|rfl
 ·exact Zw t true
 ·exact .int _ _
 ·exact .int _ _)
theorem Avm{tx:By}{ns:List By}{nm:SV}{lt:LT}{i j:Nat}(hr:Abm ns tx=some lt)(hnm:NmP nm ns)(Eb:ns.length<=200000)(Gp:tx.length<100000)(hi:i<1000)(hj:j<1000) :
  Con 126 [.str (bs tx),nm,.int .i64 i,.int .i64 j] (.tup [.agg true (tv (lt.tm i j)),.int .i64 0,.int .i64 0]):=by
 unfold Abm at hr;cases Hk:Hq (tx.length+1) 0 tx with
 |none=>rw[Hk] at hr;cases hr
 |some L=>
  rw[Hk] at hr;dsimp only at hr;have hx:=Afb Hk;have Dc:=Zu hx;split at hr
  ·rename_i t ht;cases hr;have As:L≠[]:=by
    rintro rfl;cases ht
   obtain⟨k',D,d1,g1,c1⟩:=Bge L.length ns L [] lt ht (by omega) L 0 tx.length i j nm [] 0 (by omega) hi hj (.inl rfl) hnm NG.nil rfl;have c0:=Ahs (l:=tx) (by omega) hx As (by omega);have hk:L.length<=k':=by simpa using d1
   have Dr:¬(k':Int)<(L.length:Int):=by omega
   have hz:=Af (lt.tm i j);have Ee:∀x∈[SV.str (bs tx),nm,.int .i64 i,.int .i64 j],NoG x:=fun x hx=>by
    simp only[List.mem_cons,List.not_mem_nil,or_false] at hx;rcases hx with rfl|rfl|rfl|rfl
    ·exact .str _
    ·exact hnm.noG
    ·exact .int _ _
    ·exact .int _ _
   refine s6 mixed Tryz.func126 tr126 Ee (A8x _) ?_;have i3:¬(i:Int)<0:=by omega
   have i4:¬(j:Int)<0:=by omega
   have i5:¬(i:Int) > 1000:=by omega
   have i6:¬(j:Int) > 1000:=by omega
   have hb:(L.length<=140737488355328)=True:=by simp;omega
   have hnn:nm=.nils\/∃R,nm=.dsl 1 R:=by rcases hnm with⟨h,_⟩|h;exact .inl h;exact .inr ⟨_,h⟩
   unfold rdR at c1;clear hnm Ee;rcases hnn with rfl|⟨Rn,rfl⟩
   all_goals
    simp only[go_sem,seval,i3,i4,decide_eq_false i5,decide_eq_false i6];refine Aa c0 ?_;simp only[go_sem,seval,q_g];refine Ac c1 ?_;simp only[go_sem,seval,hz,q_g,hb,Dr,forall_const]
  ·cases hr
end Go.Proofs.YtdpigpopcbjkmaaGreatDoor.Abs
