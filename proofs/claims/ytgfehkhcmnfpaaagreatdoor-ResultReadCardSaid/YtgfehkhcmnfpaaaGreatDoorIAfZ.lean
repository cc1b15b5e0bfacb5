import Derived.Test.YtgfehkhcmnfpaaaGreatDoorIWl
import Derived.Test.YtgfehkhcmnfpaaaGreatDoorIEv
import Derived.Test.YtgfehkhcmnfpaaaGreatDoorProg
import Derived.KernelRfl
set_option linter.all false
set_option maxRecDepth 20000
set_option maxHeartbeats 4000000
namespace Go.Proofs.YtgfehkhcmnfpaaaGreatDoor.Abs
open Go Go.RowKit
structure TSm(c c':RC)(k0 p0:Nat)(T' T:TR)(f' f:Nat):Prop where
 sim:∀(ns:List By) (want:Nat) (s' s:RS),Cor k0 p0 s' s->want<=2->(s'.bad=false->In c c' k0 p0 s'.k/\s'.k<=c'.L.length/\c'.L.length-s'.k<f')->(s.bad=false->c.L.length-s.k<f) ->
  Cor k0 p0 (T' ns want s').2 (T ns want s).2/\((T' ns want s').2.bad=false->(T' ns want s').1=(T ns want s).1)
 ok:TGd c' T' f'
 mono':TK T'
 mono:TK T
 ill':TI T'
 ill:TI T
def Wn(c':RC)(f':Nat)(s':RS):Prop:=s'.bad=false->Dp c' s'.k/\c'.L.length-s'.k<f'
def Wm(c:RC)(f:Nat)(s:RS):Prop:=s.bad=false->c.L.length-s.k<f
section
variable{c c':RC}{k0 p0:Nat}{T' T:TR}{f' f:Nat}
def Abg(hP:Pc c c' k0 p0)(hT:TSm c c' k0 p0 T' T f' f)(ns:List By){want:Nat}(hw:want<=2){s' s:RS}(h:Cor k0 p0 s' s)(h1:Wn c' f' s')(h2:Wm c f s) :
  Cor k0 p0 (T' ns want s').2 (T ns want s).2/\((T' ns want s').2.bad=false->(T' ns want s').1=(T ns want s).1)/\Wn c' f' (T' ns want s').2/\((T' ns want s').2.bad=false->s'.bad=false):=by
 have hs:=hT.sim ns want s' s h hw (fun hb=>⟨(h1 hb).1.inn hP,(h1 hb).1.1,(h1 hb).2⟩) h2;have hm:=hT.mono' ns want s';have back:(T' ns want s').2.bad=false->s'.bad=false:=fun hx=>by
  rcases Bool.eq_false_or_eq_true s'.bad with hb|hb
  ·rw[hT.ill' _ _ _ hb] at hx;exact hx
  ·exact hb
 refine⟨hs.1,hs.2,fun hx=>?_,back⟩;obtain⟨d1,d2⟩:=h1 (back hx);have hB:=(hT.ok ns want s' (by have:=d1.1;omega) hw d1.1 hx).2.1;exact⟨d1.bal hB,by omega⟩
def Ayd(hP:Pc c c' k0 p0)(hT:TSm c c' k0 p0 T' T f' f)(ns:List By):∀(m:Nat) (s' s:RS),Cor k0 p0 s' s->Wn c' f' s'->Wm c f s ->
  Cor k0 p0 (Ec T' ns m s').2 (Ec T ns m s).2/\((Ec T' ns m s').2.bad=false->(Ec T' ns m s').1=(Ec T ns m s).1)/\Wn c' f' (Ec T' ns m s').2/\((Ec T' ns m s').2.bad=false->s'.bad=false):=by
 intro m
 induction m with
 |zero=>intro s' s h h1 _;exact⟨h,fun _=>rfl,h1,fun h=>h⟩
 |succ m ih=>
  intro s' s h h1 h2;obtain⟨g1,g2,g3,g4⟩:=Abg hP hT ns (want:=2) (by decide) h h1 h2;have hm:=hT.mono ns 2 s;obtain⟨e1,e2,e3,e4⟩:=ih _ _ g1 g3 (fun hx=>by
   have:s.bad=false:=by
    rcases Bool.eq_false_or_eq_true s.bad with hb|hb
    ·rw[hT.ill _ _ _ hb] at hx;exact hx
    ·exact hb
   have:=h2 this;omega)
  refine⟨e1,fun hx=>?_,e3,fun hx=>g4 (e4 hx)⟩;show (T' ns 2 s').1::(Ec T' ns m (T' ns 2 s').2).1=(T ns 2 s).1::(Ec T ns m (T ns 2 s).2).1;rw[g2 (e4 hx),e2 hx]
def Amz(hP:Pc c c' k0 p0){s' s:RS}(h:Cor k0 p0 s' s)(h1:Wn c' f' s'):Cor k0 p0 (Ad c' s' 3).2 (Ad c s 3).2/\(Ad c' s' 3).1=(Ad c s 3).1/\Wn c' f' (Ad c' s' 3).2:=by
 obtain⟨g1,g2⟩:=Zv hP h (kd:=3) (fun hb=>(h1 hb).1.inn hP);refine⟨g1,g2,fun hx=>?_⟩;obtain⟨b1,b2,b3,b4⟩:=Io hx;obtain⟨d1,d2⟩:=h1 b1;rw[b4];exact⟨d1.bal (Bal.word b2 (by rw[b3];decide) (by rw[b3];decide)),by show c'.L.length-(s'.k+1)<f';omega⟩
def Axh(hP:Pc c c' k0 p0){s' s:RS}(h:Cor k0 p0 s' s)(h1:Wn c' f' s'):Cor k0 p0 (Af c' (c'.L.length+1) s').2 (Af c (c.L.length+1) s).2/\((Af c' (c'.L.length+1) s').2.bad=false->(Af c' (c'.L.length+1) s').1=(Af c (c.L.length+1) s).1)/\Wn c' f' (Af c' (c'.L.length+1) s').2/\((Af c' (c'.L.length+1) s').2.bad=false->s'.bad=false):=by
 obtain⟨g1,g2⟩:=Axg hP (c'.L.length+1) (c.L.length+1) s' s h (fun hb=>⟨(h1 hb).1,by omega⟩) (fun _=>by omega);have hm:=Ei (c:=c') (c'.L.length+1) s';refine⟨g1,g2,fun hx=>?_,fun hx=>(Nq _ _ hx).1⟩;obtain⟨b1,_,b3⟩:=Nq _ _ hx;obtain⟨d1,d2⟩:=h1 b1;exact⟨d1.bal (b3 d1.1),by omega⟩
def Alc(k:Nat):ofR k<=2:=by unfold ofR;split<;>decide
def Amy{s:RS}{s2:RS}(h2:Wm c f s)(hk:s.k<=s2.k)(hb:s2.bad=false->s.bad=false):Wm c f s2:=fun hx=>by have:=h2 (hb hx);omega
def Axf{c:RC}{F:Nat}{s:RS}(hx:(Af c F s).2.bad=false):s.bad=false:=(Nq F s hx).1
def Awz(hP:Pc c c' k0 p0)(hT:TSm c c' k0 p0 T' T f' f)(ns:List By)(k:Nat)(ch:UInt8)(x:AccR){s' s:RS}(h:Cor k0 p0 s' s)(hb:s'.bad=false)(h1:Wn c' f' s')(h2:Wm c f s) :
  Cor k0 p0 (Dh c' T' ns k ch x s').2 (Dh c T ns k ch x s).2/\((Dh c' T' ns k ch x s').2.bad=false->(Dh c' T' ns k ch x s').1=(Dh c T ns k ch x s).1)/\Wn c' f' (Dh c' T' ns k ch x s').2:=by
 obtain⟨Ci,_⟩:=h.good hb;obtain⟨l1,l2,l3,l4⟩:=Axh (f':=f') hP h h1;obtain⟨w1,w2,w3⟩:=Amz (f':=f') hP h h1;unfold Dh
 by_cases c76:ch.toNat=76
 ·rw[if_pos c76,if_pos c76];exact⟨l1,fun hx=>by dsimp only at hx |-;rw[l2 hx],l3⟩
 rw[if_neg c76,if_neg c76]
 by_cases c77:ch.toNat=77
 ·rw[if_pos c77,if_pos c77]
  by_cases k23:k=23
  ·rw[if_pos k23,if_pos k23];have hm2:Wm c f ({ (Af c (c.L.length+1) s).2 with D:=[] }:RS):=Amy (s2:={ (Af c (c.L.length+1) s).2 with D:=[] }) h2 (Ei _ s) (fun hx=>Axf hx);obtain⟨m1,m2,m3,m4⟩:=Ayd hP hT ns (arN x.n) { (Af c' (c'.L.length+1) s').2 with D:=[] } { (Af c (c.L.length+1) s).2 with D:=[] } l1 l3 hm2;dsimp only;refine⟨m1,fun hx=>?_,m3⟩;rw[m2 hx,l2 (m4 hx)]
  ·rw[if_neg k23,if_neg k23];exact⟨l1,fun hx=>by dsimp only at hx |-;rw[l2 hx],l3⟩
 rw[if_neg c77,if_neg c77]
 by_cases c83:ch.toNat=83
 ·rw[if_pos c83,if_pos c83];dsimp only;rw[w2];cases hf:Es (Ad c s 3).1 symsL with
  |some n=>exact⟨w1,fun _=>rfl,w3⟩
  |none=>
   dsimp only;refine⟨?_,fun _=>rfl,fun hx=>by rw[Gz] at hx;cases hx⟩;rcases Bool.eq_false_or_eq_true (Ad c' s' 3).2.bad with hq|hq
   ·rw[Rp hq,Rp (w1.ill hq).1];exact w1
   ·obtain⟨b1,b2,b3,b4⟩:=Io hq;have e1:(Ad c' s' 3).2.k-1=s'.k:=by rw[b4];show s'.k+1-1=s'.k;omega
    have e2:(Ad c s 3).2.k-1=s'.k+k0:=by rw[(w1.good hq).2,b4];show s'.k+1+k0-1=_;omega
    rw[e1,e2];exact Tb hP w1 (.inl b2)
 rw[if_neg c83,if_neg c83]
 by_cases cx:ch.toNat=120\/ch.toNat=121\/ch.toNat=101
 ·rw[if_pos cx,if_pos cx];exact⟨w1,fun _=>by dsimp only;rw[w2],w3⟩
 rw[if_neg cx,if_neg cx]
 by_cases c116:ch.toNat=116
 ·rw[if_pos c116,if_pos c116];obtain⟨t1,t2,t3,_⟩:=Abg hP hT ns (Alc k) h h1 h2;exact⟨t1,fun hx=>by dsimp only at hx |-;rw[t2 hx],t3⟩
 rw[if_neg c116,if_neg c116]
 by_cases c112:ch.toNat=112
 ·rw[if_pos c112,if_pos c112];obtain⟨t1,t2,t3,_⟩:=Abg hP hT ns (want:=2) (by decide) h h1 h2;exact⟨t1,fun hx=>by dsimp only at hx |-;rw[t2 hx],t3⟩
 rw[if_neg c112,if_neg c112];obtain⟨t1,t2,t3,_⟩:=Abg hP hT (x.bd++ns) (Alc k) h h1 h2;exact⟨t1,fun hx=>by dsimp only at hx |-;rw[t2 hx],t3⟩
def Awy(hI:TI T)(ns:List By)(k:Nat)(ch:UInt8)(x:AccR){s:RS}(hx:(Dh c T ns k ch x s).2.bad=false):s.bad=false:=by
 rcases Bool.eq_false_or_eq_true s.bad with hb|hb
 ·rw[(Aj7 (c:=c) hI ns k ch x hb).1] at hx;cases hx
 ·exact hb
def Ax0(hP:Pc c c' k0 p0)(hT:TSm c c' k0 p0 T' T f' f)(ns:List By)(k:Nat):∀(sh:By) (x' x:AccR) (s' s:RS),Cor k0 p0 s' s->(s'.bad=false->x'=x)->Wn c' f' s'->Wm c f s ->
  Cor k0 p0 (Ds c' T' ns k sh x' s').2 (Ds c T ns k sh x s).2/\((Ds c' T' ns k sh x' s').2.bad=false->(Ds c' T' ns k sh x' s').1=(Ds c T ns k sh x s).1)/\Wn c' f' (Ds c' T' ns k sh x' s').2:=by
 intro sh
 induction sh with
 |nil=>intro x' x s' s h hx h1 _;exact⟨h,hx,h1⟩
 |cons ch r ih=>
  intro x' x s' s h hx h1 h2;rcases Bool.eq_false_or_eq_true s'.bad with hb|hb
  ·rw[Ds,Ds,if_pos hb,if_pos (h.ill hb).1];exact⟨h,hx,h1⟩
  ·obtain⟨Ci,_⟩:=h.good hb;rw[Ds,Ds,if_neg (by rw[hb];decide),if_neg (by rw[Ci];decide)];obtain rfl:=hx hb;obtain⟨i1,i2,i3⟩:=Awz hP hT ns k ch x' h hb h1 h2;exact ih _ _ _ _ i1 i2 i3 (Amy h2 (Aj8 hT.mono ns k ch x' s) (Awy hT.ill ns k ch x'))
def Axv(hP:Pc c c' k0 p0)(hT:TSm c c' k0 p0 T' T f' f)(ns:List By)(k:Nat)(sh:By){s' s:RS}(h:Cor k0 p0 s' s)(h1:Wn c' f' s')(h2:Wm c f s) :
  Cor k0 p0 (Ai c' T' ns k sh s').2 (Ai c T ns k sh s).2/\((Ai c' T' ns k sh s').2.bad=false->(Ai c' T' ns k sh s').1=(Ai c T ns k sh s).1):=by
 obtain⟨g1,g2,g3⟩:=Ax0 hP hT ns k sh {} {} s' s h (fun _=>rfl) h1 h2;have hn:=Zv hP g1 (kd:=2) (fun hb=>(g3 hb).1.inn hP);unfold Ai;dsimp only;refine⟨hn.1,fun hx=>?_⟩;rw[g2 (Io hx).1]
end
def A2j{c c':RC}{k0 p0:Nat}(hP:Pc c c' k0 p0):∀(f' f:Nat),TSm c c' k0 p0 (Bw c' f') (Bw c f) f' f:=by
 intro f'
 induction f' with
 |zero=>
  intro f;refine⟨fun ns want s' s h hw h1 h2=>?_,Abm 0,Xe 0,Xe f,Ke 0,Ke f⟩;rcases Bool.eq_false_or_eq_true s'.bad with hb|hb
  ·rw[Ke 0 _ _ _ hb,Ke f _ _ _ (h.ill hb).1];exact⟨h,fun hx=>by rw[hb] at hx;cases hx⟩
  ·exact absurd (h1 hb).2.2 (by omega)
 |succ f' ih=>
  intro f;refine⟨fun ns want s' s h hw h1 h2=>?_,Abm _,Xe _,Xe f,Ke _,Ke f⟩;rcases Bool.eq_false_or_eq_true s'.bad with hb|hb
  ·rw[Ke _ _ _ _ hb,Ke f _ _ _ (h.ill hb).1];exact⟨h,fun hx=>by rw[hb] at hx;cases hx⟩
  obtain⟨Ci,he⟩:=h.good hb;obtain⟨hin,hle,hm⟩:=h1 hb;have hm2:=h2 Ci;have hf:=Tb hP h hin;cases f with
  |zero=>omega
  |succ f=>
  by_cases Am:s'.k<c'.L.length
  rotate_left
  ·obtain⟨e1,e2⟩:=hin.resolve_left Am;rw[Bw,Bw,if_neg (by rw[hb];decide),if_pos Am,if_neg (by rw[Ci];decide),if_pos (show ¬s.k<c.L.length by omega),he];exact⟨hf,fun _=>rfl⟩
  have Sf:s.k<c.L.length:=by have:=hP.len;omega
  have ek:(c.tk s.k).k=(c'.tk s'.k).k:=by rw[he,<-hP.k _ Am]
  have ew:(c.tk s.k).w=(c'.tk s'.k).w:=by rw[he,<-hP.w _ Am]
  have hN:Cor k0 p0 s'.nx s.nx:=.mk0 hb Ci (by show s.k+1=s'.k+1+k0;omega)
  by_cases t3:(c'.tk s'.k).k=3
  ·rw[Bw,Bw,if_neg (by rw[hb];decide),if_neg (by omega),if_pos t3,if_neg (by rw[Ci];decide),if_neg (by omega),if_pos (ek.trans t3)];unfold Iw;rw[ew];cases Es (c'.tk s'.k).w ns with
   |some n=>exact⟨hN,fun _=>rfl⟩
   |none=>rw[he];exact⟨hf,fun _=>rfl⟩
  have t3':¬(c.tk s.k).k=3:=by rw[ek];exact t3
  obtain⟨n1,n2⟩:=Zv hP h (kd:=1) (fun _=>hin);have d1:Wn c' (f'+1) (Ad c' s' 1).2:=fun hx=>by
   obtain⟨_,b2,b3,b4⟩:=Io hx;rw[b4];exact⟨Dp.opens b2 b3,by show c'.L.length-(s'.k+1)<f'+1;omega⟩
  have d1':Wn c' f' (Ad c' s' 1).2:=fun hx=>by
   obtain⟨_,b2,b3,b4⟩:=Io hx;rw[b4];exact⟨Dp.opens b2 b3,by show c'.L.length-(s'.k+1)<f';omega⟩
  obtain⟨g1,g2,g3⟩:=Amz (f':=f') hP n1 d1';have r':Bw c' (f'+1) ns want s'=(if (Ad c' (Ad c' s' 1).2 3).2.bad then (zR,(Ad c' (Ad c' s' 1).2 3).2)
   else if (Cr (Ad c' (Ad c' s' 1).2 3).1).1=0\/(want=1/\12<(Cr (Ad c' (Ad c' s' 1).2 3).1).1)\/(want=2/\2<(Cr (Ad c' (Ad c' s' 1).2 3).1).1/\(Cr (Ad c' (Ad c' s' 1).2 3).1).1<=12) then (zR,Bl c' (Ad c' (Ad c' s' 1).2 3).2 (Ad c' s' 1).2.k)
   else Ai c' (Bw c' f') ns (Cr (Ad c' (Ad c' s' 1).2 3).1).1 (Cr (Ad c' (Ad c' s' 1).2 3).1).2 (Ad c' (Ad c' s' 1).2 3).2):=by
   rw[Bw,if_neg (by rw[hb];decide),if_neg (by omega),if_neg t3]
  have r:Bw c (f+1) ns want s=(if (Ad c (Ad c s 1).2 3).2.bad then (zR,(Ad c (Ad c s 1).2 3).2)
   else if (Cr (Ad c (Ad c s 1).2 3).1).1=0\/(want=1/\12<(Cr (Ad c (Ad c s 1).2 3).1).1)\/(want=2/\2<(Cr (Ad c (Ad c s 1).2 3).1).1/\(Cr (Ad c (Ad c s 1).2 3).1).1<=12) then (zR,Bl c (Ad c (Ad c s 1).2 3).2 (Ad c s 1).2.k)
   else Ai c (Bw c f) ns (Cr (Ad c (Ad c s 1).2 3).1).1 (Cr (Ad c (Ad c s 1).2 3).1).2 (Ad c (Ad c s 1).2 3).2):=by
   rw[Bw,if_neg (by rw[Ci];decide),if_neg (by omega),if_neg t3']
  rw[g2] at r';rcases Bool.eq_false_or_eq_true (Ad c' (Ad c' s' 1).2 3).2.bad with hq|hq
  ·rw[if_pos hq] at r';rw[if_pos (g1.ill hq).1] at r;rw[r',r];exact⟨g1,fun _=>rfl⟩
  obtain⟨hq2,_⟩:=g1.good hq;rw[if_neg (by rw[hq];decide)] at r';rw[if_neg (by rw[hq2];decide)] at r;obtain⟨b1,b2,b3,b4⟩:=Io hq
  by_cases hc:(Cr (Ad c (Ad c s 1).2 3).1).1=0\/(want=1/\12<(Cr (Ad c (Ad c s 1).2 3).1).1)\/(want=2/\2<(Cr (Ad c (Ad c s 1).2 3).1).1/\(Cr (Ad c (Ad c s 1).2 3).1).1<=12)
  ·rw[if_pos hc] at r' r;rw[r',r,(n1.good b1).2];exact⟨Tb hP g1 (.inl b2),fun _=>rfl⟩
  ·rw[if_neg hc] at r' r;rw[r',r];have Ff:s.k<=(Ad c s 1).2.k:=Ce 1;have Gp:(Ad c s 1).2.k<(Ad c (Ad c s 1).2 3).2.k:=by
    obtain⟨_,_,_,a4⟩:=Io hq2;rw[a4];exact Nat.lt_succ_self _
   exact Axv hP (ih f) ns _ _ g1 g3 (fun _=>by omega)
def A1s:∀(l:List Tok) (i d:Nat),(∀q,Mt l i d=some q->dep d (l.take (q-i))=0/\∀n,0<n->n<q-i->dep d (l.take n)≠0)/\(Mt l i d=none->∀n,0<n->n<=l.length->dep d (l.take n)≠0):=by
 intro l
 induction l with
 |nil=>intro i d;exact⟨fun q h=>(by cases h),fun _ n h1 h2=>absurd h2 (by simp;omega)⟩
 |cons t r ih=>
  intro i d;rw[Mt];have Jm:∀n,dep d ((t::r).take (n+1))=dep (Mc d t) (r.take n):=fun n=>rfl
  by_cases hc:(if t.k=1 then d+1 else if t.k=2 then d-1 else d)=0
  ·rw[if_pos hc];refine⟨fun q h=>?_,fun h=>by cases h⟩;cases h;rw[show i+1-i=0+1 by omega,Jm 0];exact⟨hc,fun n h1 h2=>by omega⟩
  ·rw[if_neg hc];obtain⟨i1,i2⟩:=ih (i+1) (Mc d t);refine⟨fun q h=>?_,fun h n h1 h2=>?_⟩
   ·have hq:=Afj _ _ _ _ h;obtain⟨g1,g2⟩:=i1 q h;rw[show q-i=(q-(i+1))+1 by omega,Jm];refine⟨g1,fun n h1 h2=>?_⟩;obtain⟨m,rfl⟩:∃m,n=m+1:=⟨n-1,by omega⟩
    rw[Jm];rcases Nat.eq_zero_or_pos m with rfl|hm
    ·exact hc
    ·exact g2 m hm (by omega)
   ·obtain⟨m,rfl⟩:∃m,n=m+1:=⟨n-1,by omega⟩
    rw[Jm];rcases Nat.eq_zero_or_pos m with rfl|hm
    ·exact hc
    ·exact i2 h m hm (by rw[q_jk] at h2;omega)
def Amg{c:RC}{f:Nat}{ns:List By}{w:Nat}{s:RS}(h:(Bw c (f+1) ns w s).2.bad=false):s.k<(Bw c (f+1) ns w s).2.k:=by
 rcases Bool.eq_false_or_eq_true s.bad with hb|hb
 ·rw[Ke _ _ _ _ hb,hb] at h;cases h
 rw[Bw,if_neg (by rw[hb];decide)] at h |-
 by_cases hl:¬s.k<c.L.length
 ·rw[if_pos hl,Gz] at h;cases h
 rw[if_neg hl] at h |-
 by_cases t3:(c.tk s.k).k=3
 ·rw[if_pos t3] at h |-;unfold Iw at h |-;cases hf:Es (c.tk s.k).w ns with
  |some n=>exact Nat.lt_succ_self _
  |none=>rw[hf] at h;rw[Gz] at h;cases h
 rw[if_neg t3] at h |-;dsimp only at h |-;have h2:(Ad c s 1).2.k<=(Ad c (Ad c s 1).2 3).2.k:=Ce 3;have Yj:(Ad c s 1).2.bad=false->s.k<(Ad c s 1).2.k:=fun hx=>by
  obtain⟨_,_,_,a4⟩:=Io hx;rw[a4];exact Nat.lt_succ_self _
 rcases Bool.eq_false_or_eq_true (Ad c (Ad c s 1).2 3).2.bad with hq|hq
 ·rw[if_pos hq] at h;dsimp only at h;rw[hq] at h;cases h
 rw[if_neg (by rw[hq];decide)] at h |-;have h3:=Yj (Io hq).1;split at h
 ·rw[Gz] at h;cases h
 ·rename_i hc;rw[if_neg hc];have h4:=Akr (c:=c) (T:=Bw c f) (Xe (c:=c) f) ns (Cr (Ad c (Ad c s 1).2 3).1).1 (Cr (Ad c (Ad c s 1).2 3).1).2 {} (Ad c (Ad c s 1).2 3).2;have h5:=Ce (c:=c) (s:=(Ds c (Bw c f) ns (Cr (Ad c (Ad c s 1).2 3).1).1 (Cr (Ad c (Ad c s 1).2 3).1).2 {} (Ad c (Ad c s 1).2 3).2).2) 2;unfold Ai;dsimp only;omega
def Alg(w:By)(pl:Bool):(Mr w pl=true)↔((pl=false/\12<(Cr w).1)\/(pl=true/\2<(Cr w).1/\(Cr w).1<=12)):=by
 by_cases hin:w∈formsG.map (·.1)
 ·simp only[formsG,q_h,q_i,q_kb,q_kc,or_false] at hin;rcases hin with rfl|rfl|rfl|rfl|rfl|rfl|rfl|rfl|rfl|rfl|rfl|rfl|rfl|rfl|rfl|rfl|rfl|rfl|rfl|rfl|rfl|rfl<;>cases pl<;>decide
 ·have hg:Cr w=(0,[]):=by
   have key:∀(l:List (By×Nat×By)),w ∉ l.map (·.1)->Ir w l=none:=by
    intro l
    induction l with
    |nil=>intro _;rfl
    |cons a l ih=>
     obtain⟨v,k,sh⟩:=a;intro h;rw[q_h,q_kb,not_or] at h;rw[Ir,if_neg (by simpa using fun e=>h.1 e.symm)];exact ih h.2
   unfold Cr;rw[key _ hin];rfl
  have h1:w ∉ Zu:=fun h=>hin (by
   simp only[Zu,q_kb,q_kc,or_false] at h;rcases h with rfl|rfl|rfl|rfl|rfl|rfl|rfl|rfl|rfl|rfl<;>decide)
  have h2:w ∉ Zy:=fun h=>hin (by
   simp only[Zy,q_kb,q_kc,or_false] at h;rcases h with rfl|rfl|rfl|rfl|rfl|rfl|rfl|rfl|rfl|rfl|rfl<;>decide)
  unfold Mr;rw[if_neg h1,if_neg h2,hg];simp
def A4c{c:RC}{f:Nat}{ns:List By}{pl:Bool}{s:RS}(h:¬((c.tk s.k).k=1/\s.k+1<c.L.length/\(c.tk (s.k+1)).k=3/\Mr (c.tk (s.k+1)).w pl=true)) :
  Bw c (f+1) ns (if pl then 2 else 1) s=Bw c (f+1) ns 0 s:=by
 rw[Bw,Bw];dsimp only;rcases Bool.eq_false_or_eq_true (Ad c (Ad c s 1).2 3).2.bad with hq|hq
 ·rw[if_pos hq,if_pos hq]
 ·obtain⟨b1,b2,b3,b4⟩:=Io hq;obtain⟨_,a2,a3,a4⟩:=Io b1;rw[a4] at b2 b3;have hw:(Ad c (Ad c s 1).2 3).1=(c.tk (s.k+1)).w:=by rw[b4,a4];rfl
  have ho:¬Mr (c.tk (s.k+1)).w pl=true:=fun k=>h ⟨a3,b2,b3,k⟩
  rw[Alg] at ho;rw[hw];have e:((Cr (c.tk (s.k+1)).w).1=0\/((if pl then 2 else 1)=1/\12<(Cr (c.tk (s.k+1)).w).1)\/((if pl then 2 else 1)=2/\2<(Cr (c.tk (s.k+1)).w).1/\(Cr (c.tk (s.k+1)).w).1<=12))↔((Cr (c.tk (s.k+1)).w).1=0\/((0:Nat)=1/\12<(Cr (c.tk (s.k+1)).w).1)\/((0:Nat)=2/\2<(Cr (c.tk (s.k+1)).w).1/\(Cr (c.tk (s.k+1)).w).1<=12)):=by
   cases pl<;>simp at ho |-<;>omega
  simp only[e]
def cW(tx:By):RC:=⟨(qcR tx).L,(qcR tx).e,0,0⟩
def SmQ(a:QS)(b:RS):Prop:=a.bad=b.bad/\if a.bad then a.at_=b.at_ else a.k=b.k
def SmQ.mk0{a:QS}{b:RS}(h1:a.bad=false)(h2:b.bad=false)(h3:a.k=b.k):SmQ a b:=⟨h1.trans h2.symm,by rw[h1,if_neg (by decide)];exact h3⟩
def SmQ.mk1{a:QS}{b:RS}(h1:a.bad=true)(h2:b.bad=true)(h3:a.at_=b.at_):SmQ a b:=⟨h1.trans h2.symm,by rw[h1,if_pos rfl];exact h3⟩
def Nc{c:QC}{s:QS}(k:Nat):(Dn c s k).bad=true:=by unfold Dn Gj;split;assumption;rfl
def Md{c:QC}{s:QS}(h:s.bad=true)(k:Nat):Dn c s k=s:=by unfold Dn Gj;rw[if_pos h]
def Ql{tx:By}{a:QS}{b:RS}(h:SmQ a b)(i:Nat):SmQ (Dn (qcR tx) a i) (Bl (cW tx) b i):=by
 rcases Bool.eq_false_or_eq_true a.bad with hb|hb
 ·rw[Md hb,Rp (h.1.symm.trans hb)];exact h
 ·refine .mk1 (Nc _) (Gz _) ?_;rw[Xu (h.1.symm.trans hb)];unfold Dn Gj;rw[if_neg (by rw[hb];decide)];rfl
def Azw{tx:By}{k:Nat}(hk:k<(qcR tx).L.length){piece:By}(Zb:piece=(tx.drop ((qcR tx).tk k).p).take (Ew (qcR tx) k-((qcR tx).tk k).p)) :
  Pc (cW tx) (rcR piece 0 0) k ((qcR tx).tk k).p/\0<(rcR piece 0 0).L.length /\
  (∀q,Gk (qcR tx) k=some q->(rcR piece 0 0).L.length=q-k/\k<q/\(Bi piece).2=none/\∀n,0<n->n<q-k->dep 0 ((rcR piece 0 0).L.take n)≠0) /\
  (Gk (qcR tx) k=none->∀n,0<n->n<=(rcR piece 0 0).L.length->dep 0 ((rcR piece 0 0).L.take n)≠0):=by
 obtain⟨hL,ht,he⟩:=qc_L tx;have hx:=Jz tx;have tk:∀j,(qcR tx).tk j=(Bi tx).1.getD j tk0:=fun j=>by unfold QC.tk;rw[hL];rfl
 have tkW:∀j,(cW tx).tk j=(Bi tx).1.getD j tk0:=fun j=>by unfold RC.tk cW;dsimp only;rw[hL];rfl
 obtain⟨r1,r2⟩:=rc_L piece 0 0;have ri:(rcR piece 0 0).i=0/\(rcR piece 0 0).j=0:=by unfold rcR;split<;>exact⟨rfl,rfl⟩
 rw[hL] at hk;have hord:∀j,k<=j->j<(Bi tx).1.length->((Bi tx).1.getD k tk0).p<=((Bi tx).1.getD j tk0).p:=fun j h1 h2=>hx.order h1 h2
 have hend:=hx.ends.2 k hk;have hle:=Aax tx
 -- the piece's words,in both ways
 have both:∃m,m<=(Bi tx).1.length-k/\0<m/\(Bi piece).1=(((Bi tx).1.drop k).take m).map (Tok.back ((qcR tx).tk k).p) /\
   (∀q,Gk (qcR tx) k=some q->m=q-k/\k<q/\(Bi piece).2=none) /\
   (Gk (qcR tx) k=none->m=(Bi tx).1.length-k/\((Bi tx).2).getD tx.length=((Bi piece).2).getD piece.length+((qcR tx).tk k).p):=by
  cases hc:Gk (qcR tx) k with
  |some q=>
   have hq:=Afj _ _ _ _ (show Mt ((qcR tx).L.drop k) k 0=some q from hc);rw[hL,q_kg] at hq;have hp:=Aki (tx:=tx) hq.1 (show q<=(Bi tx).1.length by omega);have e:piece=(tx.drop ((Bi tx).1.getD k tk0).p).take (((Bi tx).1.getD (q-1) tk0).p+((Bi tx).1.getD (q-1) tk0).w.length-((Bi tx).1.getD k tk0).p):=by
    rw[Zb,Ew,hc,tk];dsimp only;rw[tk]
   rw[<-e] at hp;refine⟨q-k,by omega,by omega,by rw[hp,tk],fun q' h'=>?_,fun h'=>by cases h'⟩;cases h';exact⟨rfl,hq.1,by rw[hp]⟩
  |none=>
   have hp:=Akj (tx:=tx) hk;have e:piece=tx.drop ((Bi tx).1.getD k tk0).p:=by
    rw[Zb,Ew,hc,tk,ht];exact q_js (by rw[q_kg];exact q_ja _)
   rw[<-e] at hp;refine⟨(Bi tx).1.length-k,q_ja _,by omega,by rw[hp,tk,q_js (by rw[q_kg];exact q_ja _)],fun q' h'=>(by cases h'),fun _=>⟨rfl,?_⟩⟩;rw[hp,tk];cases he2:(Bi tx).2 with
   |none=>
    simp only[Option.map_none,Option.getD_none];rw[e,q_kg];rw[he2,Option.getD_none] at hend;omega
   |some pf=>
    simp only[q_jh,q_jz];rw[he2,q_jz] at hend;omega
 obtain⟨m,m1,m2,m3,m4,m5⟩:=both;have Bh:(rcR piece 0 0).L.length=m:=by rw[r1,m3,q_g,q_kf,q_kg];omega
 have Gc:∀i,i<m->(rcR piece 0 0).tk i=((Bi tx).1.getD (k+i) tk0).back ((qcR tx).tk k).p:=fun i hi=>by
  show (rcR piece 0 0).L.getD i _=_;rw[r1,m3];have h1:k+i<(Bi tx).1.length:=by omega
  simp only[q_j,q_ji,q_jx,if_pos hi,q_kj,q_f h1,q_jh,q_jz]
 have Adn:∀n,n<=m->dep 0 ((rcR piece 0 0).L.take n)=dep 0 (((qcR tx).L.drop k).take n):=fun n hn=>by
  rw[r1,m3,<-List.map_take,Ahf,List.take_take,Nat.min_eq_left hn,hL]
 obtain⟨s1,s2⟩:=A1s ((qcR tx).L.drop k) k 0;refine⟨⟨ri.1,ri.2,?_,fun i hi=>?_,fun i hi=>?_,fun i hi=>?_,?_⟩,by omega,fun q hq=>?_,fun hq n n1 n2=>?_⟩
 ·rw[Bh];show m+k<=(qcR tx).L.length;rw[hL];omega
 ·rw[Gc i (by omega),tkW,q_ks i k];rfl
 ·rw[Gc i (by omega),tkW,q_ks i k];rfl
 ·rw[Gc i (by omega),tkW,q_ks i k];show _=_-_+_;have:=hord (k+i) (by omega) (by omega);rw[tk];omega
 ·cases hc:Gk (qcR tx) k with
  |some q=>
   right;obtain⟨a1,a2,_⟩:=m4 q hc;have:=(s1 q hc).1;have e:=Adn m (q_ja _);rw[<-Bh,q_kk] at e;rw[e,Bh,a1];exact this
  |none=>
   left;obtain⟨a1,a2⟩:=m5 hc;refine⟨by rw[Bh];show m+k=(qcR tx).L.length;rw[hL];omega,?_⟩;show (qcR tx).e=_;rw[he,r2,a2]
 ·obtain⟨a1,a2,a3⟩:=m4 q hq;refine⟨by omega,a2,a3,fun n n1 n2=>?_⟩;rw[Adn n (by omega)];exact (s1 q hq).2 n n1 n2
 ·rw[Adn n (by omega)];exact s2 hq n n1 (by rw[hL,q_kg];omega)
def Abz(c:QC)(s:QS):Tm×Option Nat->Tm×QS
 |(t,none)=>(t,{ s with k:=(Gk c s.k).getD 0 })
 |(_,some p)=>(zR,Gj s ((c.tk s.k).p+p))
def A0m{tx:By}{ns:List By}(h:(Bw (rcR tx 0 0) ((rcR tx 0 0).L.length+1) ns 0 ⟨0,false,0,[]⟩).2.bad=true):Gr tx ns 0 0=(zR,some (Bw (rcR tx 0 0) ((rcR tx 0 0).L.length+1) ns 0 ⟨0,false,0,[]⟩).2.at_):=by
 unfold Gr;dsimp only;have e:(if (Bw (rcR tx 0 0) ((rcR tx 0 0).L.length+1) ns 0 ⟨0,false,0,[]⟩).2.bad=false/\((Bw (rcR tx 0 0) ((rcR tx 0 0).L.length+1) ns 0 ⟨0,false,0,[]⟩).2.k<(rcR tx 0 0).L.length\/(Bi tx).2.isSome=true) then Bl (rcR tx 0 0) (Bw (rcR tx 0 0) ((rcR tx 0 0).L.length+1) ns 0 ⟨0,false,0,[]⟩).2 (Bw (rcR tx 0 0) ((rcR tx 0 0).L.length+1) ns 0 ⟨0,false,0,[]⟩).2.k else (Bw (rcR tx 0 0) ((rcR tx 0 0).L.length+1) ns 0 ⟨0,false,0,[]⟩).2)=(Bw (rcR tx 0 0) ((rcR tx 0 0).L.length+1) ns 0 ⟨0,false,0,[]⟩).2:=if_neg (fun k=>by rw[h] at k;cases k.1);rw[e,if_pos h]
def A0n{tx:By}{ns:List By}(h:(Bw (rcR tx 0 0) ((rcR tx 0 0).L.length+1) ns 0 ⟨0,false,0,[]⟩).2.bad=false)(hk:¬(Bw (rcR tx 0 0) ((rcR tx 0 0).L.length+1) ns 0 ⟨0,false,0,[]⟩).2.k<(rcR tx 0 0).L.length)(hx:(Bi tx).2=none):Gr tx ns 0 0=((Bw (rcR tx 0 0) ((rcR tx 0 0).L.length+1) ns 0 ⟨0,false,0,[]⟩).1,none):=by
 unfold Gr;dsimp only;have e:(if (Bw (rcR tx 0 0) ((rcR tx 0 0).L.length+1) ns 0 ⟨0,false,0,[]⟩).2.bad=false/\((Bw (rcR tx 0 0) ((rcR tx 0 0).L.length+1) ns 0 ⟨0,false,0,[]⟩).2.k<(rcR tx 0 0).L.length\/(Bi tx).2.isSome=true) then Bl (rcR tx 0 0) (Bw (rcR tx 0 0) ((rcR tx 0 0).L.length+1) ns 0 ⟨0,false,0,[]⟩).2 (Bw (rcR tx 0 0) ((rcR tx 0 0).L.length+1) ns 0 ⟨0,false,0,[]⟩).2.k else (Bw (rcR tx 0 0) ((rcR tx 0 0).L.length+1) ns 0 ⟨0,false,0,[]⟩).2)=(Bw (rcR tx 0 0) ((rcR tx 0 0).L.length+1) ns 0 ⟨0,false,0,[]⟩).2:=if_neg (fun k=>by rcases k.2 with h'|h';exact hk h';rw[hx] at h';cases h');rw[e,if_neg (by rw[h];decide)]
def A2g(tx:By)(n:Nat)(pl:Bool){s:QS}{S:RS}(hSm:SmQ s S) :
  SmQ (Cb (qcR tx) n pl s).2 (Bw (cW tx) ((cW tx).L.length+1) (Di n) (if pl then 2 else 1) S).2 /\
  ((Cb (qcR tx) n pl s).2.bad=false->(Cb (qcR tx) n pl s).1=(Bw (cW tx) ((cW tx).L.length+1) (Di n) (if pl then 2 else 1) S).1):=by
 have hLW:(cW tx).L=(qcR tx).L:=rfl;rcases Bool.eq_false_or_eq_true s.bad with hb|hb
 ·have Pn:S.bad=true:=hSm.1.symm.trans hb;rw[Ke _ _ _ _ Pn];have e:Cb (qcR tx) n pl s=(zR,s):=by
   unfold Cb;rw[if_neg (fun k=>by rw[hb] at k;cases k.1),Md hb]
  rw[e];exact⟨hSm,fun hx=>absurd (hb.symm.trans hx) (by decide)⟩
 have Pn:S.bad=false:=hSm.1.symm.trans hb;have Rs:S.k=s.k:=by have:=hSm.2;rw[hb,if_neg (by decide)] at this;exact this.symm
 by_cases hl:s.k<(qcR tx).L.length
 rotate_left
 ·have e:Cb (qcR tx) n pl s=(zR,Dn (qcR tx) s s.k):=by unfold Cb;rw[if_neg (fun k=>hl k.2)]
  have e2:Bw (cW tx) ((cW tx).L.length+1) (Di n) (if pl then 2 else 1) S=(zR,Bl (cW tx) S s.k):=by
   rw[Bw,if_neg (by rw[Pn];decide),if_pos (by rw[Rs];exact hl),Rs]
  rw[e,e2];exact⟨Ql hSm _,fun _=>rfl⟩
 by_cases ho:((qcR tx).tk s.k).k=1/\s.k+1<(qcR tx).L.length/\((qcR tx).tk (s.k+1)).k=3/\Mr ((qcR tx).tk (s.k+1)).w pl=true
 ·have e:Cb (qcR tx) n pl s=(zR,Dn (qcR tx) s (s.k+1)):=by unfold Cb;rw[if_pos ⟨hb,hl⟩,if_pos ho]
  obtain⟨o1,o2,o3,o4⟩:=ho;have n1:Ad (cW tx) S 1=(((qcR tx).tk s.k).w,S.nx):=by
   unfold Ad;rw[Rs,if_pos ⟨Pn,hl,o1⟩];rfl
  have hnk:S.nx.k=s.k+1:=by show S.k+1=_;rw[Rs]
  have n2:Ad (cW tx) S.nx 3=(((qcR tx).tk (s.k+1)).w,S.nx.nx):=by
   unfold Ad;rw[hnk,if_pos ⟨Pn,o2,o3⟩];rfl
  have hc:(Cr ((qcR tx).tk (s.k+1)).w).1=0\/((if pl then 2 else 1)=1/\12<(Cr ((qcR tx).tk (s.k+1)).w).1)\/((if pl then 2 else 1)=2/\2<(Cr ((qcR tx).tk (s.k+1)).w).1/\(Cr ((qcR tx).tk (s.k+1)).w).1<=12):=by
   rw[Alg] at o4;cases pl<;>simp at o4 |-<;>omega
  have e2:Bw (cW tx) ((cW tx).L.length+1) (Di n) (if pl then 2 else 1) S=(zR,Bl (cW tx) S.nx.nx (s.k+1)):=by
   rw[Bw,if_neg (by rw[Pn];decide),if_neg (by rw[Rs];exact fun h=>h hl),if_neg (by rw[Rs];show ¬((qcR tx).tk s.k).k=3;rw[o1];decide)];dsimp only;rw[n1];dsimp only;rw[n2];dsimp only;rw[if_neg (by rw[show S.nx.nx.bad=S.bad from rfl,Pn];decide),if_pos hc,hnk]
  rw[e,e2];have h2:SmQ (Dn (qcR tx) s (s.k+1)) (Bl (cW tx) S (s.k+1)):=Ql hSm _;refine⟨.mk1 (Nc _) (Gz _) ?_,fun _=>rfl⟩;have h3:=h2.2;rw[Nc,if_pos rfl] at h3;rw[h3,Xu Pn,Xu (show S.nx.nx.bad=false from Pn)]
 have Sk:Bw (cW tx) ((cW tx).L.length+1) (Di n) (if pl then 2 else 1) S=Bw (cW tx) ((cW tx).L.length+1) (Di n) 0 S:=A4c (by rw[Rs];exact ho);rw[Sk];obtain⟨piece,Zb⟩:∃piece,piece=(tx.drop ((qcR tx).tk s.k).p).take (Ew (qcR tx) s.k-((qcR tx).tk s.k).p):=⟨_,rfl⟩
 obtain⟨hP,Ee,Wo,Nl⟩:=Azw hl Zb;have w6:(qcR tx).tx=tx:=(qc_L tx).2.1;have eT:Cb (qcR tx) n pl s=Abz (qcR tx) s (Gr piece (Di n) 0 0):=by
  unfold Cb;rw[if_pos ⟨hb,hl⟩,if_neg ho,w6,<-Zb];cases Gr piece (Di n) 0 0 with
  |mk t o=>cases o<;>rfl
 rw[eT];have hsim:=(A2j hP ((rcR piece 0 0).L.length+1) ((cW tx).L.length+1)).sim (Di n) 0 ⟨0,false,0,[]⟩ S (.mk0 rfl Pn (by rw[Rs];exact (q_jg _).symm)) (by decide) (fun _=>⟨.inl Ee,Nat.zero_le _,by show _-0<_;omega⟩) (fun _=>by omega);have hok:=Abm (c:=rcR piece 0 0) ((rcR piece 0 0).L.length+1) (Di n) 0 ⟨0,false,0,[]⟩ (by show _<0+_;omega) (by decide) (Nat.zero_le _);have Yj:=Amg (c:=rcR piece 0 0) (f:=(rcR piece 0 0).L.length) (ns:=Di n) (w:=0) (s:=⟨0,false,0,[]⟩);have r1:=A0m (tx:=piece) (ns:=Di n);have r2:=A0n (tx:=piece) (ns:=Di n);clear eT Sk;generalize Bw (rcR piece 0 0) ((rcR piece 0 0).L.length+1) (Di n) 0 ⟨0,false,0,[]⟩=R2 at *
 generalize Bw (cW tx) ((cW tx).L.length+1) (Di n) 0 S=RW at *
 obtain⟨t2,u2⟩:=R2;dsimp only at *
 obtain⟨c1,c2⟩:=hsim;rcases Bool.eq_false_or_eq_true u2.bad with hq|hq
 ·rw[r1 hq];unfold Abz Gj;dsimp only;rw[if_neg (by rw[hb];decide)];refine⟨.mk1 rfl (c1.ill hq).1 ?_,fun hx=>by cases hx⟩;show _+_=_;rw[(c1.ill hq).2,q_ks]
 obtain⟨_,hB,_⟩:=hok hq;have h0:=Yj hq;have Rx:dep 0 ((rcR piece 0 0).L.take u2.k)=0:=by
  have:=hB.d 0;unfold seg at this;simpa using this
 have hule:u2.k<=(rcR piece 0 0).L.length:=hB.len;cases hc:Gk (qcR tx) s.k with
 |none=>exact absurd Rx (Nl hc u2.k h0 hule)
 |some q=>
  obtain⟨g1,g2,g3,g4⟩:=Wo q hc;have hk:u2.k=(rcR piece 0 0).L.length:=by
   rcases q_jo u2.k (q-s.k) with h'|h'
   ·exact absurd Rx (g4 u2.k h0 h')
   ·omega
  rw[r2 hq (by omega) g3];unfold Abz;dsimp only;rw[hc];obtain⟨e1,e2⟩:=c1.good hq;refine⟨.mk0 hb e1 ?_,fun _=>c2 hq⟩;show q=_;omega
def Fi(c:RC)(s:RS):Nat×RS:=if s.bad=false/\¬(s.k<c.L.length/\(c.tk s.k).k=4) then (0,Bl c s s.k) else Af c (c.L.length+1) s
def tmP(c:RC)(n:Nat)(want:Nat)(s:RS):Tm×RS:=Bw c (c.L.length+1) (Di n) want s
def Hy(c:RC):Nat->List (Tm×Nat)->RS->List (Tm×Nat)×RS
 |0,es,s=>(es,s)
 |f+1,es,s=>if s.bad=false/\s.k<c.L.length/\(c.tk s.k).k=4 then Hy c f (es++[((tmP c es.length 1 (Fi c s).2).1,(Fi c s).1)]) (tmP c es.length 1 (Fi c s).2).2 else (es,s)
def Gu(c:RC)(s:RS):Bool×RS:=(decide (s.k<c.L.length/\(c.tk s.k).w=[101,113,117,97,108]),if s.bad then s else if s.k<c.L.length/\(c.tk s.k).k=3/\((c.tk s.k).w=[116,101,114,109]\/(c.tk s.k).w=[101,113,117,97,108]) then s.nx else Bl c s s.k)
def Rj(c:RC)(s:RS):XQ×RS:=
 let hd:=Gu c s
 let e:=Hy c (c.L.length+1) [] (Ad c hd.2 1).2
 let l:=Fi c (Ad c e.2 2).2
 let n:=e.1.length
 let t1:=tmP c n 1 l.2
 let t2:=tmP c n 1 t1.2
 if hd.1=false then (⟨e.1,false,l.1,t2.1,t1.1,zR,zR,zR⟩,t2.2)
 else
  let t3:=tmP c n 1 t2.2
  let t4:=tmP c n 1 t3.2
  let t5:=tmP c n 2 t4.2
  (⟨e.1,true,l.1,t1.1,t2.1,t3.1,t4.1,t5.1⟩,t5.2)
def Rc(tx:By):XQ×Option Nat:=
 let c:=cW tx
 let b:=Rj c (Ad c ⟨0,false,0,[]⟩ 1).2
 let s:=(Ad c b.2 2).2
 let s2:=if s.bad=false/\(s.k<c.L.length\/(Bi tx).2.isSome) then Bl c s s.k else s
 (b.1,if s2.bad then some s2.at_ else none)
section
variable{tx:By}{a:QS}{b:RS}
def SmQ.good(h:SmQ a b)(hb:a.bad=false):b.bad=false/\b.k=a.k:=by
 have:=h.2;rw[hb,if_neg (by decide)] at this;exact⟨h.1.symm.trans hb,this.symm⟩
def SmQ.ill(h:SmQ a b)(hb:a.bad=true):b.bad=true:=h.1.symm.trans hb
def Sr(h:SmQ a b)(kd:Nat):SmQ (Bs (qcR tx) a kd).2 (Ad (cW tx) b kd).2/\(Bs (qcR tx) a kd).1=(Ad (cW tx) b kd).1:=by
 rcases Bool.eq_false_or_eq_true a.bad with hb|hb
 ·have e:Bs (qcR tx) a kd=([],a):=by unfold Bs;rw[if_neg (fun k=>by rw[hb] at k;cases k.1),Md hb]
  rw[e,Lx (h.ill hb)];exact⟨h,rfl⟩
 ·obtain⟨Ci,hk⟩:=h.good hb;have hf:=Ql (tx:=tx) h a.k;unfold Bs Ad isQ;rw[hk]
  by_cases hl:a.k<(qcR tx).L.length/\((qcR tx).tk a.k).k=kd
  ·rw[if_pos ⟨hb,by rw[q_jn hl.1,q_jn hl.2];rfl⟩,if_pos ⟨Ci,hl⟩];exact⟨.mk0 hb Ci (by show a.k+1=b.k+1;rw[hk]),rfl⟩
  ·rw[if_neg (fun k=>hl (by have:=k.2;simpa using this)),if_neg (fun k=>hl k.2)];exact⟨hf,rfl⟩
def Abl{c:QC}{kd:Nat}(h:(Bs c a kd).2.bad=false):a.bad=false:=by
 rcases Bool.eq_false_or_eq_true a.bad with hb|hb
 ·unfold Bs at h;rw[if_neg (fun k=>by rw[hb] at k;cases k.1),Md hb,hb] at h;cases h
 ·exact hb
def Alb(h:SmQ a b):SmQ (Dj (qcR tx) a).2 (Fi (cW tx) b).2/\((Dj (qcR tx) a).2.bad=false->(Dj (qcR tx) a).1=(Fi (cW tx) b).1/\a.bad=false):=by
 rcases Bool.eq_false_or_eq_true a.bad with hb|hb
 ·have e:Bs (qcR tx) a 4=([],a):=by unfold Bs;rw[if_neg (fun k=>by rw[hb] at k;cases k.1),Md hb]
  have e2:Fi (cW tx) b=Af (cW tx) ((cW tx).L.length+1) b:=by unfold Fi;rw[if_neg (fun k=>by rw[h.ill hb] at k;cases k.1)]
  unfold Dj;rw[e,e2,Oz (h.ill hb)];dsimp only;rw[Md hb,ite_self];exact⟨h,fun hx=>by rw[hb] at hx;cases hx⟩
 ·obtain⟨Ci,hk⟩:=h.good hb
  by_cases hl:a.k<(qcR tx).L.length/\((qcR tx).tk a.k).k=4
  ·have e:Bs (qcR tx) a 4=(((qcR tx).tk a.k).w,{ a with k:=a.k+1 }):=by
    unfold Bs isQ;rw[if_pos ⟨hb,by rw[q_jn hl.1,q_jn hl.2];rfl⟩]
   have e2:Fi (cW tx) b=((Do ((qcR tx).tk a.k).w).getD 0,if b.nx.bad=false/\1000<(Do ((qcR tx).tk a.k).w).getD 0 then Bl (cW tx) b.nx a.k else b.nx):=by
    unfold Fi;rw[hk,if_neg (fun k=>k.2 hl),Aes Ci (by rw[hk];exact hl.1)];unfold Np;rw[hk,if_pos (show ((cW tx).tk a.k).k=4 from hl.2)];rfl
   unfold Dj;rw[e,e2];dsimp only;have hN:SmQ { a with k:=a.k+1 } b.nx:=.mk0 hb Ci (by show a.k+1=b.k+1;rw[hk])
   by_cases hm:1000<(Do ((qcR tx).tk a.k).w).getD 0
   ·rw[if_pos hm,if_pos ⟨Ci,hm⟩];exact⟨Ql hN _,fun _=>⟨rfl,hb⟩⟩
   ·rw[if_neg hm,if_neg (fun k=>hm k.2)];exact⟨hN,fun _=>⟨rfl,hb⟩⟩
  ·have e:Bs (qcR tx) a 4=([],Dn (qcR tx) a a.k):=by
    unfold Bs isQ;rw[if_neg (fun k=>hl (by have:=k.2;simpa using this))]
   have e2:Fi (cW tx) b=(0,Bl (cW tx) b a.k):=by unfold Fi;rw[hk,if_pos ⟨Ci,hl⟩]
   have e3:Do []=none:=rfl;unfold Dj;rw[e,e2,e3];dsimp only[Option.getD_none];rw[if_neg (by decide)];exact⟨Ql h _,fun hx=>by rw[Nc] at hx;cases hx⟩
def Xg(h:SmQ a b)(n:Nat)(pl:Bool):SmQ (Cb (qcR tx) n pl a).2 (tmP (cW tx) n (if pl then 2 else 1) b).2/\((Cb (qcR tx) n pl a).2.bad=false->(Cb (qcR tx) n pl a).1=(tmP (cW tx) n (if pl then 2 else 1) b).1/\a.bad=false):=by
 obtain⟨g1,g2⟩:=A2g tx n pl h;refine⟨g1,fun hx=>⟨g2 hx,?_⟩⟩;rcases Bool.eq_false_or_eq_true a.bad with hb|hb
 ·unfold Cb at hx;rw[if_neg (fun k=>by rw[hb] at k;cases k.1)] at hx;dsimp only at hx;rw[Md hb,hb] at hx;cases hx
 ·exact hb
def o9{c:QC}(hb:a.bad=true)(f:Nat)(es:List (Tm×Nat)):Fc c f es a=(es,a):=by
 cases f with
 |zero=>rfl
 |succ f=>rw[Fc,if_neg (fun k=>by rw[hb] at k;cases k.1)]
def Acj{c:RC}(hb:b.bad=true)(f:Nat)(es:List (Tm×Nat)):Hy c f es b=(es,b):=by
 cases f with
 |zero=>rfl
 |succ f=>rw[Hy,if_neg (fun k=>by rw[hb] at k;cases k.1)]
def Aq0:∀(f:Nat) (es:List (Tm×Nat)) (a:QS) (b:RS),SmQ a b ->
  SmQ (Bs (qcR tx) (Fc (qcR tx) f es a).2 2).2 (Ad (cW tx) (Hy (cW tx) f es b).2 2).2/\((Bs (qcR tx) (Fc (qcR tx) f es a).2 2).2.bad=false->(Fc (qcR tx) f es a).1=(Hy (cW tx) f es b).1):=by
 intro f
 induction f with
 |zero=>intro es a b h;exact⟨(Sr h 2).1,fun _=>rfl⟩
 |succ f ih=>
  intro es a b h;rcases Bool.eq_false_or_eq_true a.bad with hb|hb
  ·rw[o9 hb,Acj (h.ill hb)];exact⟨(Sr h 2).1,fun _=>rfl⟩
  obtain⟨Ci,hk⟩:=h.good hb
  by_cases h2:isQ (qcR tx) a 2=true
  ·have hn4:¬(b.k<(cW tx).L.length/\((cW tx).tk b.k).k=4):=fun k=>by
    unfold isQ at h2;simp only[q_jl,q_jt] at h2;rw[hk] at k;have e1:((qcR tx).tk a.k).k=4:=k.2;omega
   rw[Fc,if_neg (fun k=>by rw[h2] at k;cases k.2),Hy,if_neg (fun k=>hn4 k.2)];exact⟨(Sr h 2).1,fun _=>rfl⟩
  have r8:isQ (qcR tx) a 2=false:=by simpa using h2
  rw[Fc,if_pos ⟨hb,r8⟩];obtain⟨n1,n2⟩:=Alb (tx:=tx) h
  by_cases h4:b.k<(cW tx).L.length/\((cW tx).tk b.k).k=4
  ·rw[Hy,if_pos ⟨Ci,h4⟩];obtain⟨t1,t2⟩:=Xg (tx:=tx) n1 es.length false;rcases Bool.eq_false_or_eq_true (Cb (qcR tx) es.length false (Dj (qcR tx) a).2).2.bad with hq|hq
   ·have hq2:(tmP (cW tx) es.length 1 (Fi (cW tx) b).2).2.bad=true:=t1.ill hq;rw[o9 hq,Acj hq2];have ht:=Sr (tx:=tx) t1 2;refine⟨ht.1,fun hx=>?_⟩;rw[Abl hx] at hq;cases hq
   ·obtain⟨e1,e2⟩:=t2 hq;have e3:=(n2 e2).1;have hi:=ih (es++[((Cb (qcR tx) es.length false (Dj (qcR tx) a).2).1,(Dj (qcR tx) a).1)]) _ _ t1;rw[e1,e3] at hi;rw[e1,e3];exact hi
  ·have hbad:(Dj (qcR tx) a).2=Dn (qcR tx) a a.k:=by
    have e:Bs (qcR tx) a 4=([],Dn (qcR tx) a a.k):=by
     unfold Bs isQ;rw[if_neg (fun k=>h4 (by have:=k.2;rw[hk];exact (by simpa using this:a.k<(qcR tx).L.length/\((qcR tx).tk a.k).k=4)))]
    unfold Dj;rw[e];rfl
   have Ji:(Dj (qcR tx) a).2.bad=true:=by rw[hbad];exact Nc _
   have ht:Cb (qcR tx) es.length false (Dj (qcR tx) a).2=(zR,(Dj (qcR tx) a).2):=by
    unfold Cb;rw[if_neg (fun k=>by rw[Ji] at k;cases k.1),Md Ji]
   rw[ht,o9 Ji,Hy,if_neg (fun k=>h4 k.2)];dsimp only;have e5:Bs (qcR tx) (Dj (qcR tx) a).2 2=([],(Dj (qcR tx) a).2):=by unfold Bs;rw[if_neg (fun k=>by rw[Ji] at k;cases k.1),Md Ji]
   have e6:Ad (cW tx) b 2=([],Bl (cW tx) b b.k):=by
    unfold Ad;rw[if_neg (fun k=>?_)];unfold isQ at r8;rw[hk] at k;have k1:a.k<(qcR tx).L.length:=k.2.1;have k2:((qcR tx).tk a.k).k=2:=k.2.2;rw[q_jn k1,q_jn k2] at r8;cases r8
   rw[e5,e6,hbad,hk];exact⟨Ql h _,fun hx=>by rw[Nc] at hx;cases hx⟩
def Awc(h:SmQ a b):SmQ (Gv (qcR tx) a).2 (Gu (cW tx) b).2/\((Gv (qcR tx) a).2.bad=false->(Gv (qcR tx) a).1=(Gu (cW tx) b).1):=by
 obtain⟨t1,t2⟩:=Sr (tx:=tx) h 3;rcases Bool.eq_false_or_eq_true a.bad with hb|hb
 ·have e:Bs (qcR tx) a 3=([],a):=by unfold Bs;rw[if_neg (fun k=>by rw[hb] at k;cases k.1),Md hb]
  have eQ:Gv (qcR tx) a=(decide (([]:By)=[101,113,117,97,108]),a):=by
   unfold Gv;rw[e];dsimp only;rw[if_neg (show ¬(([]:By)=[116,101,114,109]\/([]:By)=[101,113,117,97,108]) by decide),Md hb]
  have eP:(Gu (cW tx) b).2=b:=by unfold Gu;dsimp only;rw[if_pos (h.ill hb)]
  rw[eQ,eP];exact⟨h,fun hx=>by rw[hb] at hx;cases hx⟩
 obtain⟨Ci,hk⟩:=h.good hb
 by_cases hl:a.k<(qcR tx).L.length/\((qcR tx).tk a.k).k=3
 ·have e:Bs (qcR tx) a 3=(((qcR tx).tk a.k).w,{ a with k:=a.k+1 }):=by
   unfold Bs isQ;rw[if_pos ⟨hb,by rw[q_jn hl.1,q_jn hl.2];rfl⟩]
  have hN:SmQ { a with k:=a.k+1 } b.nx:=.mk0 hb Ci (by show a.k+1=b.k+1;rw[hk]);have eQ:Gv (qcR tx) a=(decide (((qcR tx).tk a.k).w=[101,113,117,97,108]),if ((qcR tx).tk a.k).w=[116,101,114,109]\/((qcR tx).tk a.k).w=[101,113,117,97,108] then { a with k:=a.k+1 } else Dn (qcR tx) ({ a with k:=a.k+1 }:QS) (a.k+1-1)):=by
   unfold Gv;rw[e]
  have eP:Gu (cW tx) b=(decide (a.k<(cW tx).L.length/\((cW tx).tk a.k).w=[101,113,117,97,108]),if a.k<(cW tx).L.length/\((cW tx).tk a.k).k=3/\(((cW tx).tk a.k).w=[116,101,114,109]\/((cW tx).tk a.k).w=[101,113,117,97,108]) then b.nx else Bl (cW tx) b a.k):=by
   unfold Gu;rw[hk,if_neg (show ¬b.bad=true by rw[Ci];decide)]
  rw[eQ,eP];dsimp only;have hd:decide (((qcR tx).tk a.k).w=[101,113,117,97,108])=decide (a.k<(cW tx).L.length/\((cW tx).tk a.k).w=[101,113,117,97,108]):=decide_eq_decide.2 ⟨fun k=>⟨hl.1,k⟩,fun k=>k.2⟩
  by_cases hw:((qcR tx).tk a.k).w=[116,101,114,109]\/((qcR tx).tk a.k).w=[101,113,117,97,108]
  ·rw[if_pos hw,if_pos (show a.k<(cW tx).L.length/\((cW tx).tk a.k).k=3/\(((cW tx).tk a.k).w=[116,101,114,109]\/((cW tx).tk a.k).w=[101,113,117,97,108]) from ⟨hl.1,hl.2,hw⟩)];exact⟨hN,fun _=>hd⟩
  ·rw[if_neg hw,if_neg (show ¬(a.k<(cW tx).L.length/\((cW tx).tk a.k).k=3/\(((cW tx).tk a.k).w=[116,101,114,109]\/((cW tx).tk a.k).w=[101,113,117,97,108])) from fun k=>hw k.2.2)];refine⟨?_,fun _=>hd⟩;have hf:=Ql (tx:=tx) h a.k;have e1:Dn (qcR tx) ({ a with k:=a.k+1 }:QS) (a.k+1-1)={ Dn (qcR tx) a a.k with k:=a.k+1 }:=by
    rw[show a.k+1-1=a.k by omega];simp only[Dn,Gj,hb,q_l,if_false]
   rw[e1];have h3:=hf.2;rw[Nc,if_pos rfl] at h3;exact .mk1 (Nc _) (Gz _) h3
 ·have e:Bs (qcR tx) a 3=([],Dn (qcR tx) a a.k):=by
   unfold Bs isQ;rw[if_neg (fun k=>hl (by have:=k.2;simpa using this))]
  have eQ:Gv (qcR tx) a=(decide (([]:By)=[101,113,117,97,108]),Dn (qcR tx) a a.k):=by
   unfold Gv;rw[e];dsimp only;rw[if_neg (show ¬(([]:By)=[116,101,114,109]\/([]:By)=[101,113,117,97,108]) by decide),Md (Nc _)]
  have eP:(Gu (cW tx) b).2=Bl (cW tx) b a.k:=by
   unfold Gu;dsimp only;rw[hk,if_neg (show ¬b.bad=true by rw[Ci];decide),if_neg (show ¬(a.k<(cW tx).L.length/\((cW tx).tk a.k).k=3/\(((cW tx).tk a.k).w=[116,101,114,109]\/((cW tx).tk a.k).w=[101,113,117,97,108])) from fun k=>hl ⟨k.1,k.2.1⟩)]
  rw[eQ,eP];exact⟨Ql h _,fun hx=>by rw[Nc] at hx;cases hx⟩
def An7(h:SmQ a b):SmQ (Je (qcR tx) a).2 (Rj (cW tx) b).2/\((Je (qcR tx) a).2.bad=false->(Je (qcR tx) a).1=(Rj (cW tx) b).1):=by
 obtain⟨h1,h2⟩:=Awc (tx:=tx) h;obtain⟨i1,_⟩:=Sr (tx:=tx) h1 1;obtain⟨c1,c2⟩:SmQ (Bs (qcR tx) (Fc (qcR tx) ((qcR tx).L.length+1) [] (Bs (qcR tx) (Gv (qcR tx) a).2 1).2).2 2).2 (Ad (cW tx) (Hy (cW tx) ((cW tx).L.length+1) [] (Ad (cW tx) (Gu (cW tx) b).2 1).2).2 2).2 /\
   ((Bs (qcR tx) (Fc (qcR tx) ((qcR tx).L.length+1) [] (Bs (qcR tx) (Gv (qcR tx) a).2 1).2).2 2).2.bad=false->(Fc (qcR tx) ((qcR tx).L.length+1) [] (Bs (qcR tx) (Gv (qcR tx) a).2 1).2).1=(Hy (cW tx) ((cW tx).L.length+1) [] (Ad (cW tx) (Gu (cW tx) b).2 1).2).1):=Aq0 (tx:=tx) ((qcR tx).L.length+1) [] _ _ i1
 obtain⟨l1,l2⟩:=Alb (tx:=tx) c1
 -- where nothing is at fault behind the level,the context is one,and the head
 have back:(Dj (qcR tx) (Bs (qcR tx) (Fc (qcR tx) ((qcR tx).L.length+1) [] (Bs (qcR tx) (Gv (qcR tx) a).2 1).2).2 2).2).2.bad=false ->
   (Gv (qcR tx) a).1=(Gu (cW tx) b).1/\(Fc (qcR tx) ((qcR tx).L.length+1) [] (Bs (qcR tx) (Gv (qcR tx) a).2 1).2).1=(Hy (cW tx) ((cW tx).L.length+1) [] (Ad (cW tx) (Gu (cW tx) b).2 1).2).1 /\
   (Dj (qcR tx) (Bs (qcR tx) (Fc (qcR tx) ((qcR tx).L.length+1) [] (Bs (qcR tx) (Gv (qcR tx) a).2 1).2).2 2).2).1=(Fi (cW tx) (Ad (cW tx) (Hy (cW tx) ((cW tx).L.length+1) [] (Ad (cW tx) (Gu (cW tx) b).2 1).2).2 2).2).1:=fun hx=>by
  obtain⟨e1,e2⟩:=l2 hx;have e3:=Abl e2;refine⟨h2 ?_,c2 e2,e1⟩;rcases Bool.eq_false_or_eq_true (Bs (qcR tx) (Gv (qcR tx) a).2 1).2.bad with hq|hq
  ·rw[o9 hq,hq] at e3;cases e3
  ·exact Abl hq
 unfold Je Rj;dsimp only;generalize Gv (qcR tx) a=HQ at *
 generalize Gu (cW tx) b=HP at *
 generalize hEQ:Fc (qcR tx) ((qcR tx).L.length+1) [] (Bs (qcR tx) HQ.2 1).2=EQ at *
 generalize hEP:Hy (cW tx) ((cW tx).L.length+1) [] (Ad (cW tx) HP.2 1).2=EP at *
 generalize Dj (qcR tx) (Bs (qcR tx) EQ.2 2).2=LQ at *
 generalize Fi (cW tx) (Ad (cW tx) EP.2 2).2=LP at *
 rcases Bool.eq_false_or_eq_true LQ.2.bad with hq|hq
 ·-- all is lost
  have illT:∀(n:Nat) (pl:Bool) (u:QS),u.bad=true->Cb (qcR tx) n pl u=(zR,u):=fun n pl u hu=>by
   unfold Cb;rw[if_neg (fun k=>by rw[hu] at k;cases k.1),Md hu]
  have illP:∀(n w:Nat) (u:RS),u.bad=true->(tmP (cW tx) n w u).2=u:=fun n w u hu=>Ke _ _ _ _ hu
  have hp:=l1.ill hq;have eQ:∀(X Y:XQ),(if HQ.1=false then (X,LQ.2) else (Y,LQ.2)).2=LQ.2:=fun X Y=>by split<;>rfl
  simp only[illT _ _ _ hq];have pick:∀{P:Prop} [Decidable P] (x y:XQ×RS) (z:RS),x.2=z->y.2=z->(if P then x else y).2=z:=fun x y z h1 h2=>by split;exact h1;exact h2
  rw[eQ];refine⟨?_,fun hx=>by rw[hq] at hx;cases hx⟩;rw[pick _ _ LP.2 (by dsimp only;simp only[illP _ _ _ hp]) (by dsimp only;simp only[illP _ _ _ hp])];exact l1
 obtain⟨e1,e2,e3⟩:=back hq;rw[e1,e2,e3];obtain⟨t1,v1⟩:=Xg (tx:=tx) l1 EP.1.length false;obtain⟨t2,v2⟩:=Xg (tx:=tx) t1 EP.1.length false;obtain⟨t3,v3⟩:=Xg (tx:=tx) t2 EP.1.length false;obtain⟨t4,v4⟩:=Xg (tx:=tx) t3 EP.1.length false;obtain⟨t5,v5⟩:=Xg (tx:=tx) t4 EP.1.length true;simp only[q_l,if_false,if_true] at t1 v1 t2 v2 t3 v3 t4 v4 t5 v5
 by_cases hd:HP.1=false
 ·rw[if_pos hd,if_pos hd];refine⟨t2,fun hx=>?_⟩;obtain⟨a1,a2⟩:=v2 hx;dsimp only;rw[a1,(v1 a2).1]
 ·rw[if_neg hd,if_neg hd];refine⟨t5,fun hx=>?_⟩;obtain⟨a1,a2⟩:=v5 hx;obtain⟨a3,a4⟩:=v4 a2;obtain⟨a5,a6⟩:=v3 a4;obtain⟨a7,a8⟩:=v2 a6;dsimp only;rw[a1,a3,a5,a7,(v1 a8).1]
end
def Azv(tx:By):(Rc tx).2=(Nt tx).2/\((Nt tx).2=none->(Rc tx).1=(Nt tx).1):=by
 have h0:SmQ ⟨0,false,0⟩ (⟨0,false,0,[]⟩:RS):=.mk0 rfl rfl rfl;obtain⟨h1,_⟩:=Sr (tx:=tx) h0 1;obtain⟨h2,h3⟩:=An7 (tx:=tx) h1;obtain⟨h4,_⟩:=Sr (tx:=tx) h2 2;have hv:(Bs (qcR tx) (Je (qcR tx) (Bs (qcR tx) ⟨0,false,0⟩ 1).2).2 2).2.bad=false->(Rj (cW tx) (Ad (cW tx) ⟨0,false,0,[]⟩ 1).2).1=(Je (qcR tx) (Bs (qcR tx) ⟨0,false,0⟩ 1).2).1:=fun hx=>(h3 (Abl hx)).symm
 unfold Rc Nt;dsimp only;generalize Je (qcR tx) (Bs (qcR tx) ⟨0,false,0⟩ 1).2=BQ at *
 generalize Rj (cW tx) (Ad (cW tx) ⟨0,false,0,[]⟩ 1).2=BP at *
 generalize (Bs (qcR tx) BQ.2 2).2=u at *
 generalize (Ad (cW tx) BP.2 2).2=v at *
 rcases Bool.eq_false_or_eq_true u.bad with hb|hb
 ·have Ci:=h4.ill hb;have e1:(if u.bad=false/\(u.k<(qcR tx).L.length\/(Bi tx).2.isSome=true) then Dn (qcR tx) u u.k else u)=u:=if_neg (fun k=>by rw[hb] at k;cases k.1);have e2:(if v.bad=false/\(v.k<(cW tx).L.length\/(Bi tx).2.isSome=true) then Bl (cW tx) v v.k else v)=v:=if_neg (fun k=>by rw[Ci] at k;cases k.1);rw[e1,e2,if_pos hb,if_pos Ci];have h5:=h4.2;rw[hb,if_pos rfl] at h5;exact⟨by rw[h5],fun hx=>by cases hx⟩
 ·obtain⟨Ci,hk⟩:=h4.good hb
  by_cases hc:u.k<(qcR tx).L.length\/(Bi tx).2.isSome=true
  ·have hc2:v.k<(cW tx).L.length\/(Bi tx).2.isSome=true:=by rw[hk];exact hc
   have e1:(if u.bad=false/\(u.k<(qcR tx).L.length\/(Bi tx).2.isSome=true) then Dn (qcR tx) u u.k else u)=Dn (qcR tx) u u.k:=if_pos ⟨hb,hc⟩;have e2:(if v.bad=false/\(v.k<(cW tx).L.length\/(Bi tx).2.isSome=true) then Bl (cW tx) v v.k else v)=Bl (cW tx) v v.k:=if_pos ⟨Ci,hc2⟩;rw[e1,e2,if_pos (show (Dn (qcR tx) u u.k).bad=true from Nc _),if_pos (show (Bl (cW tx) v v.k).bad=true from Gz _),hk];have h6:=(Ql (tx:=tx) h4 u.k).2;rw[Nc,if_pos rfl] at h6;exact⟨by rw[h6],fun hx=>by cases hx⟩
  ·have hc2:¬(v.k<(cW tx).L.length\/(Bi tx).2.isSome=true):=by rw[hk];exact hc
   have e1:(if u.bad=false/\(u.k<(qcR tx).L.length\/(Bi tx).2.isSome=true) then Dn (qcR tx) u u.k else u)=u:=if_neg (fun k=>hc k.2);have e2:(if v.bad=false/\(v.k<(cW tx).L.length\/(Bi tx).2.isSome=true) then Bl (cW tx) v v.k else v)=v:=if_neg (fun k=>hc2 k.2);rw[e1,e2,if_neg (show ¬u.bad=true by rw[hb];decide),if_neg (show ¬v.bad=true by rw[Ci];decide)];exact⟨rfl,fun _=>hv hb⟩
open Go Go.Proofs Go.Proofs.YtgfehkhcmnfpaaaGreatDoor
def af49:AF:=⟨21,[(.t 2)],(Ab [oP 2 (.mv (.c .nils))] (Ab [oP 3 (.mv (.c .nils))] (.seq (Ab [oP 4 (.mv (cI 0))] (.blk 0 (.loop (.seq (Ab [Aa 5 0,oP 6 (Ay .leq 5 1000000),Aa 7 6,oG 8 7 true 0 (mT 4),oG 9 7 true 0 (mT 0),oG 10 7 true 0 (Ca .lss 8 9),oP 11 (Cf 7 10)] (Et 11 0)) (.seq (.blk 1 (Bg [Aa 14 3,Aa 15 4,oP 16 (.call 35 [(.t 15)]),oP 17 (.bin 4 .add (At [118]) (.t 16)),oP 18 (.bslice 1 [(.t 17)]),oP 19 (.app 1 16 (.t 14) (.t 18)),Aa 3 19])) (Bg [Aa 12 4,oP 13 (Ay .add 12 1),Aa 4 13])))))) (Ab [Aa 20 3,Aa 2 20] .ret))))⟩
def tr49:trF Tryz.prog Tryz.f49=some af49:=by kernel_rfl
attribute [go_sem] af49
def af51:AF:=⟨23,[(.t 8)],(Ab [oP 8 (.mv (cI 0))] (.seq (Ab [Aa 9 3,Aa 10 1,oP 11 (.len false (.t 10)),oP 12 (Ca .lss 9 11)] (Aj 12 (Ab [Aa 13 1,Aa 14 3,oP 15 (.iad 3 (.t 13) (.t 14)),oP 16 (Ae 2 15),oP 17 (Ah 16),Aa 8 17] .ret) .skip)) (.seq (Ab [Aa 18 2,oP 19 (Ay .geq 18 0)] (Aj 19 (Ab [Aa 20 2,Aa 8 20] .ret) .skip)) (Ab [Aa 21 0,oP 22 (.len true (.t 21)),Aa 8 22] .ret))))⟩
def tr51:trF Tryz.prog Tryz.f51=some af51:=by kernel_rfl
attribute [go_sem] af51
def af52:AF:=⟨42,[(.t 4)],(Ab [oP 4 (.mv (cB false))] (.seq (Ab [Aa 6 0,oP 7 (.len false (.t 6)),Aa 8 1,oP 9 (.len false (.t 8)),oP 10 (Ca .neq 7 9)] (Aj 10 (Ab [oP 4 (.mv (cB false))] .ret) .skip)) (.seq (Ab [oP 5 (.mv (cI 0))] (.blk 0 (.loop (.seq (Ab [Aa 11 5,Aa 12 0,oP 13 (.len false (.t 12)),oP 14 (Ca .lss 11 13)] (Et 14 0)) (.seq (.blk 1 (Cx [Aa 17 0,oI 18 1 (mT 5),oI 19 2 (.iad 6 (.t 17) (.t 18)),oI 20 3 (Ae 5 19),oI 21 4 (Ah 20),oI 22 5 (mT 1),oI 23 6 (mT 5),oI 24 7 (.iad 6 (.t 22) (.t 23)),oI 25 8 (Ae 5 24),oI 26 9 (Ah 25),oI 27 10 (Ca .neq 21 26),oI 28 11 (mT 27),oG 29 28 false 12 (mT 0),oG 30 28 false 13 (mT 5),oG 31 28 false 14 (.iad 6 (.t 29) (.t 30)),oG 32 28 false 15 (Ae 0 31),oG 33 28 false 16 (Aq 5 32),oG 34 28 false 17 (mT 1),oG 35 28 false 18 (mT 5),oG 36 28 false 19 (.iad 6 (.t 34) (.t 35)),oG 37 28 false 20 (Ae 0 36),oG 38 28 false 21 (Aq 5 37),oG 39 28 false 22 (.call 87 [(.t 33),(.t 38)]),oG 40 28 false 23 (.un .not (.t 39)),oI 41 24 (Dk 28 40)] (Aj 41 (Ab [oP 4 (.mv (cB false))] .ret) .skip))) (Bg [Aa 15 5,oP 16 (Ay .add 15 1),Aa 5 16])))))) (Ab [oP 4 (.mv (cB true))] .ret))))⟩
def tr52:trF Tryz.prog Tryz.f52=some af52:=by kernel_rfl
attribute [go_sem] af52
def af16:AF:=⟨49,[(.t 4)],(Ab [oP 2 (.box (.t 0)),oP 3 (.box (.t 1)),oP 4 (.mv (cB false))] (Ab [oP 5 (Ae 0 2),oP 6 (Ah 5),oP 7 (Ae 0 3),oP 8 (Ah 7),oP 9 (.call 52 [(.t 6),(.t 8)]),Aa 10 9,oG 11 10 true 0 (Ae 1 2),oG 12 10 true 0 (Ah 11),oG 13 10 true 0 (Ae 1 3),oG 14 10 true 0 (Ah 13),oG 15 10 true 0 (.bin 1 .eql (.t 12) (.t 14)),oP 16 (Cf 10 15),Aa 17 16,oG 18 17 true 0 (Ae 2 2),oG 19 17 true 0 (Ah 18),oG 20 17 true 0 (Ae 2 3),oG 21 17 true 0 (Ah 20),oG 22 17 true 0 (Ca .eql 19 21),oP 23 (Cf 17 22),Aa 24 23,oG 25 24 true 0 (Ae 3 2),oG 26 24 true 0 (Aq 5 25),oG 27 24 true 0 (Ae 8 2),oG 28 24 true 0 (Aq 5 27),oG 29 24 true 0 (Ae 13 2),oG 30 24 true 0 (Aq 5 29),oG 31 24 true 0 (Ae 18 2),oG 32 24 true 0 (Aq 5 31),oG 33 24 true 0 (Ae 23 2),oG 34 24 true 0 (Aq 5 33),oG 35 24 true 0 (.bslice 5 [(.t 26),(.t 28),(.t 30),(.t 32),(.t 34)]),oG 36 24 true 0 (Ae 3 3),oG 37 24 true 0 (Aq 5 36),oG 38 24 true 0 (Ae 8 3),oG 39 24 true 0 (Aq 5 38),oG 40 24 true 0 (Ae 13 3),oG 41 24 true 0 (Aq 5 40),oG 42 24 true 0 (Ae 18 3),oG 43 24 true 0 (Aq 5 42),oG 44 24 true 0 (Ae 23 3),oG 45 24 true 0 (Aq 5 44),oG 46 24 true 0 (.bslice 5 [(.t 37),(.t 39),(.t 41),(.t 43),(.t 45)]),oG 47 24 true 0 (.call 53 [(.t 35),(.t 46)]),oP 48 (Cf 24 47),Aa 4 48] .ret))⟩
def tr16:trF Tryz.prog Tryz.f16=some af16:=by kernel_rfl
attribute [go_sem] af16
def af4:AF:=⟨40,[(.t 2)],(Ab [oP 2 (.mv (cB false))] (.seq (Ab [Aa 9 0,oP 10 (.len true (.t 9)),oP 11 (Ay .gtr 10 3000)] (Aj 11 (Ab [oP 2 (.mv (cB true))] .ret) .skip)) (Ab [Aa 13 0,oP 14 (.call 14 [(.t 13)]),Aa 12 14,oP 15 (.ext (.t 12) 0),oP 16 (.ext (.t 12) 1),oP 17 (.ext (.t 12) 2),oP 3 (.new [.nils,(.bool false),(iS 0),(iS 0),(iS 0),(iS 0),(iS 0),.nils,(iS 0),(iS 0),(iS 0),(iS 0),.nils,(iS 0),(iS 0),(iS 0),(iS 0),.nils,(iS 0),(iS 0),(iS 0),(iS 0),.nils,(iS 0),(iS 0),(iS 0),(iS 0),.nils]),oN (Ax 28 3 15),Aa 4 16,Aa 5 17] (Ab [Aa 19 0,oP 20 (.call 15 [(.t 19)]),Aa 18 20,oP 21 (.ext (.t 18) 0),oP 22 (.ext (.t 18) 1),oP 23 (.ext (.t 18) 2),oP 6 (.new [.nils,(.bool false),(iS 0),(iS 0),(iS 0),(iS 0),(iS 0),.nils,(iS 0),(iS 0),(iS 0),(iS 0),.nils,(iS 0),(iS 0),(iS 0),(iS 0),.nils,(iS 0),(iS 0),(iS 0),(iS 0),.nils,(iS 0),(iS 0),(iS 0),(iS 0),.nils]),oN (Ax 28 6 21),Aa 7 22,Aa 8 23] (Ab [Aa 24 4,Aa 25 7,oP 26 (Ca .eql 24 25),Aa 27 26,oG 28 27 true 0 (mT 5),oG 29 27 true 0 (mT 8),oG 30 27 true 0 (Ca .eql 28 29),oP 31 (Cf 27 30),Aa 32 31,oG 33 32 true 0 (Aq 28 3),oG 34 32 true 0 (Aq 28 6),oG 35 32 true 0 (.call 16 [(.t 33),(.t 34)]),oP 36 (Cf 32 35),Aa 37 36,oG 38 37 true 0 (.call 13 []),oP 39 (Cf 37 38),Aa 2 39] .ret)))))⟩
def tr4:trF Tryz.prog Tryz.f4=some af4:=by kernel_rfl
attribute [go_sem] af4
def af48:AF:=⟨21,[(.t 2)],(Ab [oP 2 (.mv (cI 0))] (.seq (Ab [Aa 3 0,oP 4 (Ak 3),oP 5 (Ae 2 4),oP 6 (Ah 5),oP 7 (Ay .lss 6 0),Aa 8 7,oG 9 8 true 0 (mT 0),oG 10 8 true 0 (.hcall 46 [(.t 9)]),oG 11 8 true 0 (Ay .neq 10 4),oP 12 (Cf 8 11)] (Aj 12 (Bg [Aa 13 0,Aa 14 0,oP 15 (Ak 14),oP 16 (Ae 1 15),oP 17 (Ah 16),oP 18 (.hcall 47 [(.t 13),(.t 17)])]) .skip)) (Ab [Aa 19 0,oP 20 (.hcall 84 [(.t 19)]),Aa 2 20] .ret)))⟩
def tr48:trF Tryz.prog Tryz.f48=some af48:=by kernel_rfl
attribute [go_sem] af48
def a15_21:AC:=.seq (Ab [Aa 57 7,oP 58 (Ak 57),oP 59 (Ae 2 58),oP 60 (Ah 59),oP 61 (Ay .lss 60 0),Aa 62 61,oG 63 62 true 0 (mT 7),oG 64 62 true 0 (.hcall 46 [(.t 63)]),oG 65 62 true 0 (An 64 4),oP 66 (Cf 62 65)] (Et 66 0)) (.blk 1 (Ab [Aa 67 7,oP 68 (.hcall 48 [(.t 67)]),Aa 10 68] (Ab [Aa 69 7,Aa 70 9,oP 71 (.len false (.t 70)),oP 72 (.call 49 [(.t 71)]),oP 73 (Ak 69),oP 74 (Ae 5 73),oN (Ax 1 74 72)] (Bg [Aa 75 9,Aa 76 7,oP 77 (.hcall 50 [(.t 76),(cI 1)]),Aa 78 10,oP 79 (.build [(iS 0),(iS 0),(iS 0),(iS 0),.nils,(iS 0)] [(0,(5,(.t 77))),(5,(1,(.t 78)))]),oP 80 (.bslice 6 [(.t 79)]),oP 81 (.app 6 64 (.t 75) (.t 80)),Aa 9 81]))))
def a15_62:AC:=Ab [Aa 82 7,Aa 83 9,oP 84 (.len false (.t 83)),oP 85 (.call 49 [(.t 84)]),oP 86 (Ak 82),oP 87 (Ae 5 86),oN (Ax 1 87 85)] (Ab [Aa 88 7,oP 89 (.hcall 44 [(.t 88),(cI 2)])] (Ab [Aa 90 9,Aa 91 8,oP 92 (.bin 4 .eql (.t 91) (At [101,113,117,97,108])),oP 93 (.build [.nils,(.bool false),(iS 0),(iS 0),(iS 0),(iS 0),(iS 0),.nils,(iS 0),(iS 0),(iS 0),(iS 0),.nils,(iS 0),(iS 0),(iS 0),(iS 0),.nils,(iS 0),(iS 0),(iS 0),(iS 0),.nils,(iS 0),(iS 0),(iS 0),(iS 0),.nils] [(0,(1,(.t 90))),(1,(1,(.t 92)))]),oP 11 (.new [.nils,(.bool false),(iS 0),(iS 0),(iS 0),(iS 0),(iS 0),.nils,(iS 0),(iS 0),(iS 0),(iS 0),.nils,(iS 0),(iS 0),(iS 0),(iS 0),.nils,(iS 0),(iS 0),(iS 0),(iS 0),.nils,(iS 0),(iS 0),(iS 0),(iS 0),.nils]),oN (Ax 28 11 93)] (Ab [Aa 94 7,oP 95 (.hcall 48 [(.t 94)]),oP 96 (Ae 2 11),oN (Ax 1 96 95)] (.seq (Ab [oP 97 (Ae 1 11),oP 98 (Ah 97)] (Aj 98 (Ab [Aa 99 7,oP 100 (.hcall 50 [(.t 99),(cI 1)]),oP 101 (Ae 3 11),oN (Ax 5 101 100)] (Ab [Aa 102 7,oP 103 (.hcall 50 [(.t 102),(cI 1)]),oP 104 (Ae 8 11),oN (Ax 5 104 103)] (Ab [Aa 105 7,oP 106 (.hcall 50 [(.t 105),(cI 1)]),oP 107 (Ae 13 11),oN (Ax 5 107 106)] (Ab [Aa 108 7,oP 109 (.hcall 50 [(.t 108),(cI 1)]),oP 110 (Ae 18 11),oN (Ax 5 110 109)] (Bg [Aa 111 7,oP 112 (.hcall 50 [(.t 111),(cI 2)]),oP 113 (Ae 23 11),oN (Ax 5 113 112)]))))) (Ab [Aa 114 7,oP 115 (.hcall 50 [(.t 114),(cI 1)]),oP 116 (Ae 8 11),oN (Ax 5 116 115)] (Bg [Aa 117 7,oP 118 (.hcall 50 [(.t 117),(cI 1)]),oP 119 (Ae 3 11),oN (Ax 5 119 118)])))) (Ab [Aa 120 7,oP 121 (.hcall 44 [(.t 120),(cI 2)])] (.seq (Ab [Aa 122 7,oP 123 (Ak 122),oP 124 (Ae 2 123),oP 125 (Ah 124),oP 126 (Ay .lss 125 0),Aa 127 126,oG 128 127 true 0 (mT 7),oG 129 127 true 0 (Ak 128),oG 130 127 true 0 (Ae 1 129),oG 131 127 true 0 (Ah 130),oG 132 127 true 0 (mT 5),oG 133 127 true 0 (.len false (.t 132)),oG 134 127 true 0 (Ca .lss 131 133),oG 135 127 true 0 (mT 134),oG 136 135 false 0 (mT 6),oG 137 135 false 0 (Ay .geq 136 0),oG 138 127 true 0 (Dk 135 137),oP 139 (Cf 127 138)] (Aj 139 (Bg [Aa 140 7,Aa 141 7,oP 142 (Ak 141),oP 143 (Ae 1 142),oP 144 (Ah 143),oP 145 (Ak 140),oP 146 (Ae 2 145),oN (Ax 1 146 144)]) .skip)) (.seq (Ab [Aa 147 7,oP 148 (Ak 147),oP 149 (Ae 2 148),oP 150 (Ah 149),oP 151 (Ay .geq 150 0)] (Aj 151 (Ab [oP 152 (.build [.nils,(.bool false),(iS 0),(iS 0),(iS 0),(iS 0),(iS 0),.nils,(iS 0),(iS 0),(iS 0),(iS 0),.nils,(iS 0),(iS 0),(iS 0),(iS 0),.nils,(iS 0),(iS 0),(iS 0),(iS 0),.nils,(iS 0),(iS 0),(iS 0),(iS 0),.nils] []),Aa 153 0,Aa 154 5,Aa 155 6,Aa 156 7,oP 157 (Ak 156),oP 158 (Ae 2 157),oP 159 (Ah 158),oP 160 (.call 51 [(.t 153),(.t 154),(.t 155),(.t 159)]),oN (Ax 28 2 152),oP 3 (.mv (cI 2)),Aa 4 160] .ret) .skip)) (Ab [oP 161 (Aq 28 11),oN (Ax 28 2 161),oP 3 (.mv (cI 0)),oP 4 (.mv (cI 0))] .ret))))))))
def af15:AF:=⟨162,[(.cell 2 true 28),(.t 3),(.t 4)],(Ab [oP 2 (.new [.nils,(.bool false),(iS 0),(iS 0),(iS 0),(iS 0),(iS 0),.nils,(iS 0),(iS 0),(iS 0),(iS 0),.nils,(iS 0),(iS 0),(iS 0),(iS 0),.nils,(iS 0),(iS 0),(iS 0),(iS 0),.nils,(iS 0),(iS 0),(iS 0),(iS 0),.nils]),oP 3 (.mv (cI 0)),oP 4 (.mv (cI 0))] (Ab [Aa 13 0,oP 14 (.call 43 [(.t 13)]),Aa 12 14,oP 15 (.ext (.t 12) 0),oP 16 (.ext (.t 12) 1),Aa 5 15,Aa 6 16] (Ab [Aa 17 5,oP 18 (.build [.nils,(iS 0),(iS 0),(iS 0),(iS 0),.nils] [(0,(1,(.t 17))),(2,(1,(cI (-1))))]),oP 19 (.boxg (.t 18)),Aa 7 19] (Ab [Aa 20 7,oP 21 (.hcall 44 [(.t 20),(cI 1)])] (Ab [Aa 22 7,oP 23 (.hcall 45 [(.t 22)]),Aa 8 23] (.seq (Ab [Aa 24 7,oP 25 (Ak 24),oP 26 (Ae 2 25),oP 27 (Ah 26),oP 28 (Ay .lss 27 0),Aa 29 28,oG 30 29 true 0 (mT 7),oG 31 29 true 0 (.hcall 46 [(.t 30)]),oG 32 29 true 0 (Ay .neq 31 3),oG 33 29 true 0 (mT 32),oG 34 33 false 0 (mT 8),oG 35 33 false 0 (.bin 4 .neq (.t 34) (At [116,101,114,109])),oG 36 33 false 0 (mT 35),oG 37 36 true 0 (mT 8),oG 38 36 true 0 (.bin 4 .neq (.t 37) (At [101,113,117,97,108])),oG 39 33 false 0 (Cf 36 38),oG 40 29 true 0 (Dk 33 39),oP 41 (Cf 29 40)] (Aj 41 (Bg [Aa 42 7,Aa 43 7,oP 44 (Ak 43),oP 45 (Ae 1 44),oP 46 (Ah 45),oP 47 (.hcall 47 [(.t 42),(.t 46)])]) .skip)) (Ab [Aa 48 7,oP 49 (Ak 48),oP 50 (Ae 1 49),oP 51 (Ah 50),oP 52 (Ay .add 51 1),oP 53 (Ak 48),oP 54 (Ae 1 53),oN (Ax 1 54 52)] (Ab [Aa 55 7,oP 56 (.hcall 44 [(.t 55),(cI 1)])] (Ab [oP 9 (.mv (.c .nils))] (.seq (.blk 0 (.loop a15_21)) a15_62))))))))))⟩
def tr15:trF Tryz.prog Tryz.f15=some af15:=by kernel_rfl
attribute [go_sem] af15 a15_21 a15_62
section
variable{c:QC}{s:QS}
end
section
variable{c:QC}{s:QS}
def Alh{p:Nat}:(Gj s p).bad=true:=by unfold Gj;split;assumption;rfl
def Vn{k:Nat}:(Dn c s k).bad=true:=Alh
def Abj{kd:Nat}(h:(Bs c s kd).2.bad=false):s.bad=false:=by
 unfold Bs at h;split at h
 ·rename_i hc;exact hc.1
 ·rw[Vn] at h;cases h
def Aeq(h:(Dj c s).2.bad=false):s.bad=false/\(Dj c s).1<=1000:=by
 unfold Dj at h |-;dsimp only at h |-
 by_cases hc:1000<(Do (Bs c s 4).1).getD 0
 ·rw[if_pos hc,Vn] at h;cases h
 ·rw[if_neg hc] at h;exact⟨Abj h,by omega⟩
def other_forms:(∀x∈formsG,Mr x.1 false=false->Jp (x.2.1:Nat)=0\/Jp (x.2.1:Nat)=1)/\(∀x∈formsG,Mr x.1 true=false->Jp (x.2.1:Nat)=0\/Jp (x.2.1:Nat)=2):=by decide
def plQ(pl:Bool):Nat:=if pl then 2 else 1
def Xd{tx:By}(hm:tx.length<=3000){n:Nat}(hn:n<=1000000){pl:Bool}{s:QS}(h:(Cb (qcR tx) n pl s).2.bad=false):s.bad=false/\GT n (plQ pl) 3001 (Cb (qcR tx) n pl s).1:=by
 have hg:=goodP tx hm;obtain⟨hL,ht,he⟩:=qc_L tx;have tk:∀k,(qcR tx).tk k=(Bi tx).1.getD k tk0:=fun k=>by unfold QC.tk;rw[hL];rfl
 unfold Cb at h |-;split at h;rotate_left
 ·rw[Vn] at h;cases h
 rename_i h0;rw[if_pos h0];split at h
 ·rw[Vn] at h;cases h
 rename_i h1;rw[if_neg h1];refine⟨h0.1,?_⟩;cases hz:Gr (((qcR tx).tx.drop ((qcR tx).tk s.k).p).take (Ew (qcR tx) s.k-((qcR tx).tk s.k).p)) (Di n) 0 0 with
 |mk t o=>
  rw[hz] at h;cases o with
  |some p=>dsimp only at h;rw[Alh] at h;cases h
  |none=>
   dsimp only;cases hq:Gk (qcR tx) s.k with
   |none=>
    obtain⟨t2,p,Ic⟩:=hg.z s.k (Di n) h0.2 hq;have hE:Ew (qcR tx) s.k=(qcR tx).tx.length:=by unfold Ew;rw[hq]
    rw[hE,Ic] at hz;cases hz
   |some q=>
    obtain⟨q1,q2,q3⟩:=hg.cl s.k q h0.2 hq;have hE:Ew (qcR tx) s.k=((qcR tx).tk (q-1)).p+((qcR tx).tk (q-1)).w.length:=by unfold Ew;rw[hq]
    have hk:=h0.2;rw[hE,ht,tk,tk] at hz;rw[hL] at q2 hk h1;have hp:=Aki q1 q2;obtain⟨g1,_,g3,s',g4,g5⟩:=Alq hz;have Bh:((tx.drop ((Bi tx).1.getD s.k tk0).p).take (((Bi tx).1.getD (q-1) tk0).p+((Bi tx).1.getD (q-1) tk0).w.length-((Bi tx).1.getD s.k tk0).p)).length<=3000:=by
     rw[q_kf,q_kg];omega
    obtain⟨r1,r2,r3,r4⟩:=g3 (by rw[Wv];omega);rw[Wv] at r2;refine⟨?_,r2,r3,by omega⟩;have hrc:=(rc_L ((tx.drop ((Bi tx).1.getD s.k tk0).p).take (((Bi tx).1.getD (q-1) tk0).p+((Bi tx).1.getD (q-1) tk0).w.length-((Bi tx).1.getD s.k tk0).p)) 0 0).1;rw[hp] at hrc;dsimp only at hrc;have tok:∀x,s.k+x<q->((rcR ((tx.drop ((Bi tx).1.getD s.k tk0).p).take (((Bi tx).1.getD (q-1) tk0).p+((Bi tx).1.getD (q-1) tk0).w.length-((Bi tx).1.getD s.k tk0).p)) 0 0).tk x)=((Bi tx).1.getD (s.k+x) tk0).back ((Bi tx).1.getD s.k tk0).p:=fun x hx=>by
     show (rcR _ 0 0).L.getD x tk0=_;rw[hrc];simp only[q_j,q_ji];rw[List.getElem?_take_of_lt (by omega),q_kj,q_f (show s.k+x<(Bi tx).1.length by omega)];rfl
    have hcl:(rcR ((tx.drop ((Bi tx).1.getD s.k tk0).p).take (((Bi tx).1.getD (q-1) tk0).p+((Bi tx).1.getD (q-1) tk0).w.length-((Bi tx).1.getD s.k tk0).p)) 0 0).L.length=q-s.k:=by
     rw[hrc,q_g,q_kf,q_kg];omega
    rcases A1d g4 g5 with⟨m,rfl⟩|⟨a1,a2,a3,gk,sh,a,b,m,l,a4,rfl⟩
    ·exact Afe r1 (.inl rfl)
    ·rw[hcl] at a2;rw[tok 0 (by omega)] at a1;rw[tok 1 (by omega)] at a3 a4;have ho:Mr ((Bi tx).1.getD (s.k+1) tk0).w pl=false:=by
      rw[tk,tk] at h1;cases ho:Mr ((Bi tx).1.getD (s.k+1) tk0).w pl with
      |false=>rfl
      |true=>exact absurd ⟨a1,by omega,a3,ho⟩ h1
     refine Afe r1 ?_;cases pl with
     |false=>exact other_forms.1 _ a4 ho
     |true=>exact other_forms.2 _ a4 ho
def EnOK(es:List (Tm×Nat)):Prop:=∀k,k<es.length->(es.getD k (zR,0)).2<=1000/\GT k 1 3001 (es.getD k (zR,0)).1
def EnOK.put{es:List (Tm×Nat)}(h:EnOK es){t:Tm}{i:Nat}(ht:GT es.length 1 3001 t)(hi:i<=1000):EnOK (es++[(t,i)]):=by
 intro k hk;rw[q_jr,List.length_singleton] at hk
 by_cases h2:k<es.length
 ·have:=h k h2;simp only[q_j,q_jf h2] at this |-;exact this
 ·obtain rfl:k=es.length:=by omega
  simp only[q_j,List.getElem?_concat_length,q_jz];exact⟨hi,ht⟩
def Aqz{tx:By}(hm:tx.length<=3000):∀(f:Nat) (es:List (Tm×Nat)) (s:QS),es.length+f<=4000->EnOK es->(Fc (qcR tx) f es s).2.bad=false->s.bad=false/\EnOK (Fc (qcR tx) f es s).1/\(Fc (qcR tx) f es s).1.length<=4000:=by
 intro f
 induction f with
 |zero=>intro es s hl hE h;exact⟨h,hE,hl⟩
 |succ f ih=>
  intro es s hl hE h;rw[Fc] at h |-
  by_cases hc:s.bad=false/\isQ (qcR tx) s 2=false
  ·rw[if_pos hc] at h |-;have hb:(Cb (qcR tx) es.length false (Dj (qcR tx) s).2).2.bad=false:=by
    cases hb:(Cb (qcR tx) es.length false (Dj (qcR tx) s).2).2.bad with
    |false=>rfl
    |true=>
     exfalso;cases f with
     |zero=>rw[Fc] at h;rw[hb] at h;cases h
     |succ f=>rw[Fc,if_neg (fun k=>by rw[hb] at k;cases k.1)] at h;rw[hb] at h;cases h
   obtain⟨t1,t2⟩:=Xd hm (by omega) hb;obtain⟨l1,l2⟩:=Aeq t1;have:=ih _ _ (by rw[q_jr,List.length_singleton];omega) (hE.put t2 l2) h;exact⟨l1,this.2⟩
  ·rw[if_neg hc] at h |-;exact⟨h,hE,by dsimp only;omega⟩
end
structure XOK(x:XQ):Prop where
 c:EnOK x.ctx
 n:x.ctx.length<=4000
 i:x.i<=1000
 a:GT x.ctx.length 1 3001 x.a
 u:GT x.ctx.length 1 3001 x.u
 q:x.eq=true->GT x.ctx.length 1 3001 x.b/\GT x.ctx.length 1 3001 x.v/\GT x.ctx.length 2 3001 x.h
def An6{tx:By}(hm:tx.length<=3000){s:QS}(h:(Je (qcR tx) s).2.bad=false):XOK (Je (qcR tx) s).1:=by
 have Bh:(qcR tx).L.length<=3000:=by have:=(goodP tx hm).l;rw[(qc_L tx).2.1] at this;omega
 have Vy:=fun s=>Aqz hm ((qcR tx).L.length+1) [] s (by rw[List.length_nil];omega) (fun k hk=>absurd hk (q_kp _))
 unfold Je at h |-;dsimp only at h |-;generalize (Bs (qcR tx) (Gv (qcR tx) s).2 1).2=s1 at h |-;have Vy:=Vy s1;generalize Fc (qcR tx) ((qcR tx).L.length+1) [] s1=e at h Vy |-;obtain⟨es,s2⟩:=e;dsimp only at h Vy |-;have back:(Cb (qcR tx) es.length false (Cb (qcR tx) es.length false (Dj (qcR tx) (Bs (qcR tx) s2 2).2).2).2).2.bad=false->EnOK es/\es.length<=4000/\(Dj (qcR tx) (Bs (qcR tx) s2 2).2).1<=1000 /\
   GT es.length 1 3001 (Cb (qcR tx) es.length false (Dj (qcR tx) (Bs (qcR tx) s2 2).2).2).1/\GT es.length 1 3001 (Cb (qcR tx) es.length false (Cb (qcR tx) es.length false (Dj (qcR tx) (Bs (qcR tx) s2 2).2).2).2).1:=fun hb=>by
  have Pr:es.length<=1000000:=by
   by_cases h0:s2.bad=false
   ·have:=(Vy h0).2.2;omega
   ·exfalso;have q:∀n,(Cb (qcR tx) n false (Cb (qcR tx) n false (Dj (qcR tx) (Bs (qcR tx) s2 2).2).2).2).2.bad=false->s2.bad=false:=fun n hb=>by
     have tb:∀(s:QS),(Cb (qcR tx) n false s).2.bad=false->s.bad=false:=fun s hs=>by
      unfold Cb at hs;split at hs
      ·rename_i k;exact k.1
      ·rw[Vn] at hs;cases hs
     exact Abj (Aeq (tb _ (tb _ hb))).1
    exact h0 (q _ hb)
  obtain⟨t1,t2⟩:=Xd hm Pr hb;obtain⟨t3,t4⟩:=Xd hm Pr t1;obtain⟨l1,l2⟩:=Aeq t3;obtain⟨c1,c2,c3⟩:=Vy (Abj l1);exact⟨c2,c3,l2,t4,t2⟩
 split at h
 ·rename_i hd;rw[if_pos hd];obtain⟨g1,g2,g3,g4,g5⟩:=back h;exact⟨g1,g2,g3,g5,g4,fun hq=>by cases hq⟩
 ·rename_i hd;rw[if_neg hd];have tb:∀(s:QS) (n:Nat) (pl:Bool),(Cb (qcR tx) n pl s).2.bad=false->s.bad=false:=fun s n pl hs=>by
   unfold Cb at hs;split at hs
   ·rename_i k;exact k.1
   ·rw[Vn] at hs;cases hs
  have h4:=tb _ _ _ h;have h3:=tb _ _ _ h4;have h2:=tb _ _ _ h3;obtain⟨g1,g2,g3,g4,g5⟩:=back h2;have Pr:es.length<=1000000:=by omega
  exact⟨g1,g2,g3,g4,g5,fun _=>⟨(Xd hm Pr h3).2,(Xd hm Pr h4).2,(Xd hm Pr h).2⟩⟩
def Als{tx:By}(hm:tx.length<=3000){x:XQ}(h:Nt tx=(x,none)):XOK x:=by
 unfold Nt at h;dsimp only at h;have h5:=congrArg Prod.snd h;have h6:=congrArg Prod.fst h;dsimp only at h5 h6;subst h6;refine An6 hm ?_;generalize Je (qcR tx) (Bs (qcR tx) ⟨0,false,0⟩ 1).2=b at h5 |-;refine Abj (c:=qcR tx) (kd:=2) ?_;generalize (Bs (qcR tx) b.2 2).2=s at h5 |-;cases hb:s.bad with
 |false=>rfl
 |true=>
  have e:(if s.bad=false/\(s.k<(qcR tx).L.length\/(Bi tx).2.isSome=true) then Dn (qcR tx) s s.k else s)=s:=if_neg (fun k=>by rw[hb] at k;cases k.1);rw[e,if_pos hb] at h5;cases h5
def af13:AF:=⟨50,[(.t 0)],(Ab [oP 0 (.mv (cB false))] (Ab [oP 5 (.call 37 [(cI 0)]),oP 6 (.call 37 [(cI 1)]),oP 7 (.build [.nils,(.bool false),(iS 0),(iS 0),(iS 0),(iS 0),(iS 0),.nils,(iS 0),(iS 0),(iS 0),(iS 0),.nils,(iS 0),(iS 0),(iS 0),(iS 0),.nils,(iS 0),(iS 0),(iS 0),(iS 0),.nils,(iS 0),(iS 0),(iS 0),(iS 0),.nils] [(2,(1,(cI 2))),(8,(5,(.t 5))),(3,(5,(.t 6)))]),oP 1 (.new [.nils,(.bool false),(iS 0),(iS 0),(iS 0),(iS 0),(iS 0),.nils,(iS 0),(iS 0),(iS 0),(iS 0),.nils,(iS 0),(iS 0),(iS 0),(iS 0),.nils,(iS 0),(iS 0),(iS 0),(iS 0),.nils,(iS 0),(iS 0),(iS 0),(iS 0),.nils]),oN (Ax 28 1 7)] (Ab [oP 9 (.call 14 [(At [40,116,101,114,109,32,40,41,32,50,32,40,115,111,114,116,32,48,41,32,40,115,111,114,116,32,49,41,41,32,59,32,110,111,116,101])]),Aa 8 9,oP 10 (.ext (.t 8) 0),oP 11 (.ext (.t 8) 1),oP 12 (.ext (.t 8) 2),oP 2 (.new [.nils,(.bool false),(iS 0),(iS 0),(iS 0),(iS 0),(iS 0),.nils,(iS 0),(iS 0),(iS 0),(iS 0),.nils,(iS 0),(iS 0),(iS 0),(iS 0),.nils,(iS 0),(iS 0),(iS 0),(iS 0),.nils,(iS 0),(iS 0),(iS 0),(iS 0),.nils]),oN (Ax 28 2 10),Aa 3 11,Aa 4 12] (Ab [oP 13 (Aq 28 1),oP 14 (.call 8 [(.t 13)]),Aa 15 14,oG 16 15 true 0 (Aq 28 1),oG 17 15 true 0 (.call 11 [(.t 16)]),oG 18 15 true 0 (.bin 4 .eql (.t 17) (At [40,116,101,114,109,32,40,41,32,50,32,40,115,111,114,116,32,48,41,32,40,115,111,114,116,32,49,41,41,10])),oP 19 (Cf 15 18),Aa 20 19,oG 21 20 true 0 (mT 3),oG 22 20 true 0 (An 21 0),oP 23 (Cf 20 22),Aa 24 23,oG 25 24 true 0 (mT 4),oG 26 24 true 0 (An 25 0),oP 27 (Cf 24 26),Aa 28 27,oG 29 28 true 0 (Ae 2 2),oG 30 28 true 0 (Ah 29),oG 31 28 true 0 (An 30 2),oP 32 (Cf 28 31),Aa 33 32,oG 34 33 true 0 (Ae 8 2),oG 35 33 true 0 (Ae 0 34),oG 36 33 true 0 (Ah 35),oG 37 33 true 0 (An 36 1),oP 38 (Cf 33 37),Aa 39 38,oG 40 39 true 0 (Ae 3 2),oG 41 39 true 0 (Ae 1 40),oG 42 39 true 0 (Ah 41),oG 43 39 true 0 (An 42 1),oP 44 (Cf 39 43),Aa 45 44,oG 46 45 true 0 (Aq 28 1),oG 47 45 true 0 (.call 38 [(.t 46),(.c (.float .f64 4621256167635550208))]),oG 48 45 true 0 (An 47 0),oP 49 (Cf 45 48),Aa 0 49] .ret))))⟩
def tr13:trF Tryz.prog Tryz.f13=some af13:=by kernel_rfl
attribute [go_sem] af13
def af37:AF:=⟨5,[(.cell 2 true 5)],(Ab [oP 2 Fp] (Ab [Aa 3 0,oP 4 (Gy [(0,(1,(cI 1))),(1,(1,(.t 3)))]),oN (Ax 5 2 4)] .ret))⟩
def tr37:trF Tryz.prog Tryz.f37=some af37:=by kernel_rfl
attribute [go_sem] af37
def af8:AF:=⟨99,[(.t 2)],(Ab [oP 1 (.box (.t 0)),oP 2 (.mv (cB false))] (Ab [oP 5 (Ae 0 1),oP 6 (Ah 5),oP 7 (.len false (.t 6)),Aa 3 7] (.seq (Ab [oP 8 (Ae 0 1),oP 9 (Ah 8),oP 10 (.call 19 [(.t 9)]),oP 11 (.un .not (.t 10)),Aa 12 11,oG 13 12 false 0 (Ae 2 1),oG 14 12 false 0 (Ah 13),oG 15 12 false 0 (Ay .lss 14 0),oP 16 (Dk 12 15),Aa 17 16,oG 18 17 false 0 (Ae 2 1),oG 19 17 false 0 (Ah 18),oG 20 17 false 0 (Ay .gtr 19 1000),oP 21 (Dk 17 20),Aa 22 21,oG 23 22 false 0 (Ae 3 1),oG 24 22 false 0 (Aq 5 23),oG 25 22 false 0 (.call 20 [(.t 24)]),oG 26 22 false 0 (.un .not (.t 25)),oP 27 (Dk 22 26),Aa 28 27,oG 29 28 false 0 (Ae 8 1),oG 30 28 false 0 (Aq 5 29),oG 31 28 false 0 (.call 20 [(.t 30)]),oG 32 28 false 0 (.un .not (.t 31)),oP 33 (Dk 28 32),Aa 34 33,oG 35 34 false 0 (Ae 3 1),oG 36 34 false 0 (Aq 5 35),oG 37 34 false 0 (mT 3),oG 38 34 false 0 (.call 21 [(.t 36),(.t 37)]),oG 39 34 false 0 (.un .not (.t 38)),oP 40 (Dk 34 39),Aa 41 40,oG 42 41 false 0 (Ae 8 1),oG 43 41 false 0 (Aq 5 42),oG 44 41 false 0 (mT 3),oG 45 41 false 0 (.call 21 [(.t 43),(.t 44)]),oG 46 41 false 0 (.un .not (.t 45)),oP 47 (Dk 41 46)] (Aj 47 (Ab [oP 2 (.mv (cB false))] .ret) .skip)) (.seq (Ab [oP 48 (Ae 1 1),oP 49 (Ah 48),oP 50 (.un .not (.t 49))] (Aj 50 (Ab [oP 51 (Gy []),oP 4 Fp,oN (Ax 5 4 51)] (Ab [oP 52 (Ae 13 1),oP 53 (Aq 5 52),oP 54 (Aq 5 4),oP 55 (.call 22 [(.t 53),(.t 54)]),Aa 56 55,oG 57 56 true 0 (Ae 18 1),oG 58 56 true 0 (Aq 5 57),oG 59 56 true 0 (Aq 5 4),oG 60 56 true 0 (.call 22 [(.t 58),(.t 59)]),oP 61 (Cf 56 60),Aa 62 61,oG 63 62 true 0 (Ae 23 1),oG 64 62 true 0 (Aq 5 63),oG 65 62 true 0 (Aq 5 4),oG 66 62 true 0 (.call 22 [(.t 64),(.t 65)]),oP 67 (Cf 62 66),Aa 2 67] .ret)) .skip)) (Ab [oP 68 (Ae 13 1),oP 69 (Aq 5 68),oP 70 (.call 20 [(.t 69)]),Aa 71 70,oG 72 71 true 0 (Ae 18 1),oG 73 71 true 0 (Aq 5 72),oG 74 71 true 0 (.call 20 [(.t 73)]),oP 75 (Cf 71 74),Aa 76 75,oG 77 76 true 0 (Ae 23 1),oG 78 76 true 0 (Aq 5 77),oG 79 76 true 0 (.call 23 [(.t 78)]),oP 80 (Cf 76 79),Aa 81 80,oG 82 81 true 0 (Ae 13 1),oG 83 81 true 0 (Aq 5 82),oG 84 81 true 0 (mT 3),oG 85 81 true 0 (.call 21 [(.t 83),(.t 84)]),oP 86 (Cf 81 85),Aa 87 86,oG 88 87 true 0 (Ae 18 1),oG 89 87 true 0 (Aq 5 88),oG 90 87 true 0 (mT 3),oG 91 87 true 0 (.call 21 [(.t 89),(.t 90)]),oP 92 (Cf 87 91),Aa 93 92,oG 94 93 true 0 (Ae 23 1),oG 95 93 true 0 (Aq 5 94),oG 96 93 true 0 (mT 3),oG 97 93 true 0 (.call 21 [(.t 95),(.t 96)]),oP 98 (Cf 93 97),Aa 2 98] .ret)))))⟩
def tr8:trF Tryz.prog Tryz.f8=some af8:=by kernel_rfl
attribute [go_sem] af8
def af21:AF:=⟨9,[(.t 4)],(Ab [oP 2 (.box (.t 0)),oP 4 (.mv (cB false))] (Ab [oP 5 (Aq 5 2),oP 6 (.call 55 [(.t 5)]),Aa 7 1,oP 8 (Ca .leq 6 7),Aa 4 8] .ret))⟩
def tr21:trF Tryz.prog Tryz.f21=some af21:=by kernel_rfl
attribute [go_sem] af21
def af19:AF:=⟨34,[(.t 2)],(Ab [oP 2 (.mv (cB false))] (.seq (Ab [Aa 5 0,oP 6 (.len false (.t 5)),oP 7 (.mv (cI 0))] (.blk 0 (.loop (Ab [oP 8 (Ca .lss 7 6)] (.seq (Et 8 0) (.seq (.blk 1 (Ab [Aa 9 7,oP 10 (.iad 6 (.t 5) (.t 7)),oP 11 (Aq 6 10),oP 4 (.new [(iS 0),(iS 0),(iS 0),(iS 0),.nils,(iS 0)]),Aa 3 9,oN (Ax 6 4 11)] (Ab [oP 12 (Ae 5 4),oP 13 (Ah 12),oP 14 (Ay .lss 13 0),Aa 15 14,oG 16 15 false 0 (Ae 5 4),oG 17 15 false 0 (Ah 16),oG 18 15 false 0 (Ay .gtr 17 1000),oP 19 (Dk 15 18),Aa 20 19,oG 21 20 false 0 (Ae 0 4),oG 22 20 false 0 (Aq 5 21),oG 23 20 false 0 (.call 20 [(.t 22)]),oG 24 20 false 0 (.un .not (.t 23)),oP 25 (Dk 20 24),Aa 26 25,oG 27 26 false 0 (Ae 0 4),oG 28 26 false 0 (Aq 5 27),oG 29 26 false 0 (.call 55 [(.t 28)]),oG 30 26 false 0 (mT 3),oG 31 26 false 0 (Ca .gtr 29 30),oP 32 (Dk 26 31)] (Aj 32 (Ab [oP 2 (.mv (cB false))] .ret) .skip)))) (Bg [oP 33 (Ay .add 7 1),Aa 7 33]))))))) (Ab [oP 2 (.mv (cB true))] .ret)))⟩
def tr19:trF Tryz.prog Tryz.f19=some af19:=by kernel_rfl
attribute [go_sem] af19
def af38:AF:=⟨95,[(.t 4)],(Ab [oP 2 (.box (.t 0)),oP 4 (.mv (cI 0))] (.seq (Ab [oP 11 (Aq 28 2),oP 12 (.call 8 [(.t 11)]),oP 13 (.un .not (.t 12))] (Aj 13 (Ab [oP 4 (.mv (cI 1))] .ret) .skip)) (.seq (Ab [oP 14 (Ae 0 2),oP 15 (Ah 14),Aa 16 1,oP 17 (.call 67 [(.t 15),(.t 16)]),Aa 5 17] (Ab [Aa 18 5,oP 19 (Ay .neq 18 0)] (Aj 19 (Ab [Aa 20 5,Aa 4 20] .ret) .skip))) (.seq (Ab [oP 21 (Ae 0 2),oP 22 (Ah 21),oP 23 (Ae 8 2),oP 24 (Aq 5 23),oP 25 (Ae 3 2),oP 26 (Aq 5 25),oP 27 (Ae 2 2),oP 28 (Ah 27),Aa 29 1,oP 30 (.call 68 [(.t 22),(.t 24),(.t 26),(.t 28),(.t 29)]),Aa 6 30] (Ab [Aa 31 6,oP 32 (Ay .neq 31 0)] (Aj 32 (Ab [Aa 33 6,Aa 4 33] .ret) .skip))) (.seq (Ab [oP 34 (Ae 1 2),oP 35 (Ah 34)] (Aj 35 (Ab [oP 36 (Ae 0 2),oP 37 (Ah 36),oP 38 (Ae 18 2),oP 39 (Aq 5 38),oP 40 (Ae 13 2),oP 41 (Aq 5 40),oP 42 (Ae 2 2),oP 43 (Ah 42),Aa 44 1,oP 45 (.call 68 [(.t 37),(.t 39),(.t 41),(.t 43),(.t 44)]),Aa 7 45] (Ab [Aa 46 7,oP 47 (Ay .neq 46 0)] (Aj 47 (Ab [Aa 48 7,Aa 4 48] .ret) .skip))) .skip)) (Ab [oP 49 (Ae 0 2),oP 50 (Ah 49),oP 51 (.call 69 [(.t 50)]),Aa 8 51] (.seq (Ab [Aa 52 8,Aa 53 1,oP 54 (.call 70 [(.t 52),(.t 53)]),Aa 9 54] (Ab [Aa 55 9,oP 56 (Ay .neq 55 0)] (Aj 56 (Ab [Aa 57 9,oP 58 (.call 71 [(.t 57)]),Aa 4 58] .ret) .skip))) (.seq (Ab [oP 59 (Ae 1 2),oP 60 (Ah 59),oP 61 (.un .not (.t 60))] (Aj 61 (Cx [Aa 62 8,oI 63 1 (Ae 8 2),oI 64 2 (Aq 5 63),⟨(some 65),(.call 73 [(.t 64)]),none,3,true,[]⟩,oI 66 4 (Ae 3 2),⟨(some 67),(Aq 5 66),none,5,false,[3]⟩,oI 68 6 (.call 73 [(.t 67)]),oI 69 7 (mT 1),oI 70 8 (.call 72 [(.t 62),(.t 65),(.t 68),(.t 69)]),oI 71 9 (.call 71 [(.t 70)]),oI 4 10 (mT 71)] .ret) .skip)) (Cx [oP 72 (Ae 2 2),⟨(some 73),(Ah 72),none,1,true,[]⟩,oI 74 2 (Ae 3 2),⟨(some 75),(Aq 5 74),none,3,true,[]⟩,⟨(some 76),(.call 73 [(.t 75)]),none,4,true,[1]⟩,oI 77 5 (Ae 13 2),⟨(some 78),(Aq 5 77),none,6,true,[4]⟩,⟨(some 79),(.call 73 [(.t 78)]),none,7,true,[1]⟩,oI 80 8 (Ae 8 2),⟨(some 81),(Aq 5 80),none,9,true,[4,7]⟩,⟨(some 82),(.call 73 [(.t 81)]),none,10,true,[1]⟩,oI 83 11 (Ae 18 2),⟨(some 84),(Aq 5 83),none,12,true,[4,7,10]⟩,⟨(some 85),(.call 73 [(.t 84)]),none,13,true,[1]⟩,⟨(some 86),(.bslice 5 [(.t 76),(.t 79),(.t 82),(.t 85)]),none,14,true,[1]⟩,⟨(some 87),(.call 74 [(cI 23),(.t 73),(cI 0),(cI 6),(.t 86)]),none,15,true,[]⟩,⟨(some 10),Fp,none,16,false,[1,3,4,6,7,9,10,12,13,14,15]⟩,oJ 17 (Ax 5 10 87)] (Ab [Aa 88 8,oP 89 (Ae 23 2),oP 90 (Aq 5 89),oP 91 (Aq 5 10),Aa 92 1,oP 93 (.call 72 [(.t 88),(.t 90),(.t 91),(.t 92)]),oP 94 (.call 71 [(.t 93)]),Aa 4 94] .ret))))))))))⟩
def tr38:trF Tryz.prog Tryz.f38=some af38:=by kernel_rfl
attribute [go_sem] af38
def af68:AF:=⟨45,[(.t 10)],(Ab [oP 6 (.box (.t 1)),oP 7 (.box (.t 2)),oP 10 (.mv (cI 0))] (Ab [Aa 16 0,oP 17 (Aq 5 6),Aa 18 4,oP 19 (.call 106 [(.t 16),(.t 17),(.t 18)]),Aa 15 19,oP 20 (.ext (.t 15) 0),oP 21 (.ext (.t 15) 1),oP 22 (.ext (.t 15) 2),oP 11 Fp,oN (Ax 5 11 20),Aa 12 21,Aa 13 22] (.seq (Ab [Aa 23 13,oP 24 (Ay .neq 23 0)] (Aj 24 (Ab [Aa 25 13,Aa 10 25] .ret) .skip)) (.seq (Ab [Aa 26 12,Aa 27 3,oP 28 (Ca .neq 26 27)] (Aj 28 (Ab [oP 10 (.mv (cI 5))] .ret) .skip)) (.seq (.cut (.reg [oP 30 (Aq 5 11),⟨(some 31),(.call 73 [(.t 30)]),none,1,true,[]⟩,⟨(some 32),(Aq 5 7),none,2,false,[1]⟩,oI 33 3 (.call 73 [(.t 32)]),oI 34 4 (mT 4)] true) (.cut (Bg [⟨(some 35),(.hcall 107 [(.t 31),(.t 33),(.t 34)]),none,5,false,[5]⟩]) (.reg [oI 29 6 (mT 35),oI 36 7 (.ext (.t 29) 0),oI 37 8 (.ext (.t 29) 1),oI 14 9 (mT 36),oI 13 10 (mT 37)] true))) (.seq (Ab [Aa 38 13,oP 39 (An 38 0),Aa 40 39,oG 41 40 true 0 (mT 14),oG 42 40 true 0 (.un .not (.t 41)),oP 43 (Cf 40 42)] (Aj 43 (Ab [oP 10 (.mv (cI 5))] .ret) .skip)) (Ab [Aa 44 13,Aa 10 44] .ret)))))))⟩
def tr68:trF Tryz.prog Tryz.f68=some af68:=by kernel_rfl
attribute [go_sem] af68
def af71:AF:=⟨6,[(.t 2)],(Ab [oP 2 (.mv (cI 0))] (.seq (Ab [Aa 3 0,oP 4 (An 3 1)] (Aj 4 (Ab [oP 2 (.mv (cI 5))] .ret) .skip)) (Ab [Aa 5 0,Aa 2 5] .ret)))⟩
def tr71:trF Tryz.prog Tryz.f71=some af71:=by kernel_rfl
attribute [go_sem] af71
def af69:AF:=⟨26,[(.t 2)],(Ab [oP 2 (.mv (.c .nils))] (.seq (Ab [Aa 6 0,oP 7 (.call 19 [(.t 6)]),oP 8 (.un .not (.t 7))] (Aj 8 (Ab [oP 2 (.mv (.c .nils))] .ret) .skip)) (Ab [Aa 9 0,oP 10 (.len false (.t 9)),oP 11 (.mk 5 56 [(iS 0),(iS 0),(iS 0),(iS 0),.nils] (cI 0) (.t 10)),Aa 3 11] (.seq (Ab [Aa 12 0,oP 13 (.len false (.t 12)),oP 14 (.mv (cI 0))] (.blk 0 (.loop (Ab [oP 15 (Ca .lss 14 13)] (.seq (Et 15 0) (.seq (.blk 1 (Ab [oP 16 (.iad 6 (.t 12) (.t 14)),oP 17 (Aq 6 16),oP 5 (.new [(iS 0),(iS 0),(iS 0),(iS 0),.nils,(iS 0)]),oN (Ax 6 5 17)] (Bg [Aa 18 3,oP 19 (Ae 0 5),oP 20 (Aq 5 19),oP 21 (.call 73 [(.t 20)]),oP 22 (.bslice 5 [(.t 21)]),oP 23 (.app 5 56 (.t 18) (.t 22)),Aa 3 23]))) (Bg [oP 24 (Ay .add 14 1),Aa 14 24]))))))) (Ab [Aa 25 3,Aa 2 25] .ret)))))⟩
def tr69:trF Tryz.prog Tryz.f69=some af69:=by kernel_rfl
attribute [go_sem] af69
def af73:AF:=⟨9,[(.cell 2 true 5)],(Ab [oP 1 (.box (.t 0)),oP 2 Fp] (.seq (Ab [oP 3 (Aq 5 1),oP 4 (.call 64 [(.t 3)]),oP 5 (.un .not (.t 4))] (Aj 5 (Ab [oP 6 (Gy []),oN (Ax 5 2 6)] .ret) .skip)) (Ab [oP 7 (Aq 5 1),oP 8 (.call 119 [(.t 7)]),oN (Ax 5 2 8)] .ret)))⟩
def tr73:trF Tryz.prog Tryz.f73=some af73:=by kernel_rfl
attribute [go_sem] af73
def af119:AF:=⟨94,[(.cell 2 true 5)],(Ab [oP 1 (.box (.t 0)),oP 2 Fp] (Ab [oP 3 (.mv (cI 0)),oP 4 (.mv (cI 0))] (.seq (Ab [oP 8 (Ae 0 1),oP 9 (Ah 8)] (.blk 0 (Ab [oP 13 (An 9 3),Aa 12 13] (Aj 12 (Bg [oP 3 (.mv (cI 13))]) (Ab [oP 15 (An 9 4),Aa 14 15] (Aj 14 (Cx [oP 16 (Ae 4 1),oI 17 1 (Ah 16),oI 18 2 (.iad 5 (.t 17) (cI 0)),oI 19 3 (Aq 5 18),⟨(some 20),(.call 119 [(.t 19)]),none,4,true,[]⟩,oI 21 5 (Ae 4 1),⟨(some 22),(Ah 21),none,6,false,[4]⟩,⟨(some 23),(.iad 5 (.t 22) (cI 2)),none,7,false,[4]⟩,⟨(some 24),(Aq 5 23),none,8,false,[4]⟩,oI 25 9 (.call 119 [(.t 24)]),oI 26 10 (.bslice 5 [(.t 20),(.t 25)]),oI 27 11 (.call 74 [(cI 14),(cI 0),(cI 0),(cI 0),(.t 26)]),oJ 12 (Ax 5 2 27)] .ret) (Ab [oP 29 (An 9 5),Aa 28 29] (Aj 28 (Bg [oP 3 (.mv (cI 15)),oP 4 (.mv (cI 2))]) (Ab [oP 31 (An 9 6),Aa 30 31] (Aj 30 (Bg [oP 3 (.mv (cI 16))]) (Ab [oP 33 (An 9 7),Aa 32 33] (Aj 32 (Bg [oP 3 (.mv (cI 17))]) (Ab [oP 35 (An 9 8),Aa 34 35] (Aj 34 (Bg [oP 3 (.mv (cI 18)),oP 4 (.mv (cI 2))]) (Ab [oP 37 (An 9 9),Aa 36 37] (Aj 36 (Bg [oP 3 (.mv (cI 19)),oP 4 (.mv (cI 2))]) (Ab [oP 39 (An 9 10),Aa 38 39] (Aj 38 (Bg [oP 3 (.mv (cI 20))]) (Ab [oP 41 (An 9 11),Aa 40 41] (Aj 40 (Bg [oP 3 (.mv (cI 21))]) (Ab [oP 43 (An 9 12),Aa 42 43] (Aj 42 (Cx [oP 44 (Ae 1 1),⟨(some 45),(Ah 44),none,1,true,[]⟩,oI 46 2 (Ae 4 1),oI 47 3 (Ah 46),oI 48 4 (.iad 5 (.t 47) (cI 0)),oI 49 5 (Aq 5 48),⟨(some 50),(.call 119 [(.t 49)]),none,6,true,[1]⟩,oI 51 7 (Ae 4 1),⟨(some 52),(Ah 51),none,8,false,[6]⟩,⟨(some 53),(.iad 5 (.t 52) (cI 1)),none,9,false,[6]⟩,⟨(some 54),(Aq 5 53),none,10,false,[6]⟩,⟨(some 55),(.call 119 [(.t 54)]),none,11,true,[1]⟩,oI 56 12 (Ae 4 1),⟨(some 57),(Ah 56),none,13,false,[6,11]⟩,⟨(some 58),(.iad 5 (.t 57) (cI 2)),none,14,false,[6,11]⟩,⟨(some 59),(Aq 5 58),none,15,false,[6,11]⟩,⟨(some 60),(.call 141 [(.t 59)]),none,16,true,[1]⟩,oI 61 17 (Ae 4 1),⟨(some 62),(Ah 61),none,18,false,[6,11,16]⟩,⟨(some 63),(.iad 5 (.t 62) (cI 3)),none,19,false,[6,11,16]⟩,⟨(some 64),(Aq 5 63),none,20,false,[6,11,16]⟩,⟨(some 65),(.call 119 [(.t 64)]),none,21,false,[1]⟩,⟨(some 66),(.bslice 5 [(.t 50),(.t 55),(.t 60),(.t 65)]),none,22,false,[1]⟩,oI 67 23 (.call 74 [(cI 23),(.t 45),(cI 0),(cI 5),(.t 66)]),oJ 24 (Ax 5 2 67)] .ret) (Ab [oP 10 (Aq 5 1),oP 11 (.call 141 [(.t 10)]),oN (Ax 5 2 11)] .ret))))))))))))))))))))))) (Ab [Aa 68 3,oP 69 (Ae 4 1),oP 70 (Ah 69),oP 71 (.len false (.t 70)),Aa 72 4,oP 73 (Ca .sub 71 72),oP 74 (.mk 5 56 [(iS 0),(iS 0),(iS 0),(iS 0),.nils] (cI 0) (.t 73)),oP 75 (Gy [(0,(1,(.t 68))),(4,(1,(.t 74)))]),oP 5 Fp,oN (Ax 5 5 75)] (.seq (Ab [oP 76 (Ae 4 1),oP 77 (Ah 76),Aa 78 4,oP 79 (.slc 5 (.t 77) (some (.t 78)) none),oP 80 (.len false (.t 79)),oP 81 (.mv (cI 0))] (.blk 1 (.loop (Ab [oP 82 (Ca .lss 81 80)] (.seq (Et 82 1) (.seq (.blk 2 (Ab [oP 83 (.iad 5 (.t 79) (.t 81)),oP 84 (Aq 5 83),oP 7 Fp,oN (Ax 5 7 84)] (.reg [oP 85 (Ae 4 5),⟨(some 86),(Ah 85),none,1,true,[]⟩,oI 87 2 (Aq 5 7),⟨(some 88),(.call 119 [(.t 87)]),none,3,false,[1]⟩,⟨(some 89),(.bslice 5 [(.t 88)]),none,4,false,[1]⟩,oI 90 5 (.app 5 56 (.t 86) (.t 89)),oI 91 6 (Ae 4 5),oJ 7 (Ax 1 91 90)] true))) (Bg [oP 92 (Ay .add 81 1),Aa 81 92]))))))) (Ab [oP 93 (Aq 5 5),oN (Ax 5 2 93)] .ret))))))⟩
def tr119:trF Tryz.prog Tryz.f119=some af119:=by kernel_rfl
attribute [go_sem] af119
def af136:AF:=⟨229,[(.cell 6 true 5),(.t 7)],(Ab [oP 5 (.box (.t 2)),oP 6 Fp,oP 7 (.mv (cI 0))] (Ab [oP 12 (Ae 1 5),oP 13 (Ah 12),oP 14 (Ae 2 5),oP 15 (Ah 14),oP 16 (.mnx true (.t 13) (.t 15)),Aa 8 16] (.seq (Ab [oP 17 (Ae 0 5),oP 18 (Ah 17)] (.blk 0 (Ab [oP 20 (An 18 1),Aa 19 20] (Aj 19 (Ab [oP 21 (Ae 1 5),oP 22 (Ah 21),oP 23 (Ay .add 22 2),oP 24 (Ay .leq 23 1000),oP 25 (.call 137 [(.t 24)])] (Cx [oP 26 (Ae 1 5),oI 27 1 (Ah 26),oI 28 2 (Ay .add 27 1),⟨(some 29),(.call 162 [(.t 28)]),none,3,true,[]⟩,oI 30 4 (Ae 1 5),⟨(some 31),(Ah 30),none,5,true,[3]⟩,oI 32 6 (Ay .add 31 2),⟨none,(Ax 5 6 29),none,7,false,[5]⟩,oI 7 8 (mT 32)] .ret)) (Ab [oP 34 (An 18 2),Aa 33 34] (Aj 33 (Ab [Aa 35 1,Aa 36 1,oP 37 (.len false (.t 36)),oP 38 (Ay .sub 37 1),oP 39 (Ae 1 5),oP 40 (Ah 39),oP 41 (Ca .sub 38 40),oP 42 (.iad 6 (.t 35) (.t 41)),oP 43 (Aq 6 42),oP 9 (.new [(iS 0),(iS 0),(iS 0),(iS 0),.nils,(iS 0)]),oN (Ax 6 9 43)] (Ab [oP 45 (Ae 0 9),oP 46 (Aq 5 45),oP 47 (Ae 1 5),oP 48 (Ah 47),oP 49 (Ay .add 48 1),oP 50 (.call 163 [(.t 46),(.t 49),(cI 0)]),Aa 44 50,oP 51 (.ext (.t 44) 0),oP 52 (.ext (.t 44) 1),oP 10 Fp,oN (Ax 5 10 51),Aa 11 52] (Cx [oP 53 (Aq 5 10),oI 54 1 (Ae 5 9),⟨(some 55),(Ah 54),none,2,true,[]⟩,⟨none,(Ax 5 6 53),none,3,false,[2]⟩,oI 7 4 (mT 55)] .ret))) (.seq (Ab [oP 57 (An 18 3),Aa 56 57] (Aj 56 .skip (Bg [oP 58 (An 18 6),Aa 56 58]))) (Aj 56 (Ab [Aa 59 0,Aa 60 1,oP 61 (Aq 5 5),oP 62 (.hcall 164 [(.t 59),(.t 60),(.t 61)])] (Ab [Aa 63 8,oP 64 (Ay .lss 63 1000),oP 65 (.call 137 [(.t 64)])] (Ab [Aa 66 8,oP 67 (.call 162 [(.t 66)]),Aa 68 8,oP 69 (Ay .add 68 1),oN (Ax 5 6 67),Aa 7 69] .ret))) (Ab [oP 71 (An 18 4),Aa 70 71] (Aj 70 (Cx [Aa 72 0,oI 73 1 (mT 0),oI 74 2 (mT 1),oI 75 3 (Aq 5 5),⟨(some 76),(.hcall 164 [(.t 73),(.t 74),(.t 75)]),none,4,true,[]⟩,oI 77 5 (Ae 4 5),⟨(some 78),(Ah 77),none,6,false,[4]⟩,⟨(some 79),(.iad 5 (.t 78) (cI 2)),none,7,false,[4]⟩,⟨(some 80),(Aq 5 79),none,8,false,[4]⟩,oI 81 9 (Ae 4 5),⟨(some 82),(Ah 81),none,10,false,[4]⟩,⟨(some 83),(.iad 5 (.t 82) (cI 1)),none,11,false,[4]⟩,⟨(some 84),(Aq 5 83),none,12,false,[4]⟩,oI 85 13 (Ae 2 5),⟨(some 86),(Ah 85),none,14,false,[4]⟩,⟨(some 87),(.hcall 165 [(.t 72),(.t 76),(.t 80),(.t 84),(.t 86)]),none,15,false,[15]⟩] (Ab [oP 88 (Aq 5 5),oP 89 (.call 166 [(cI 3),(.t 88),(.c .nils)]),Aa 90 8,oN (Ax 5 6 89),Aa 7 90] .ret)) (Ab [oP 92 (An 18 5),Aa 91 92] (Aj 91 (Ab [Aa 93 0,Aa 94 1,oP 95 (Aq 5 5),oP 96 (.hcall 164 [(.t 93),(.t 94),(.t 95)])] (Cx [Aa 97 0,oI 98 1 (mT 1),oI 99 2 (Ae 4 5),⟨(some 100),(Ah 99),none,3,true,[]⟩,⟨(some 101),(.iad 5 (.t 100) (cI 2)),none,4,true,[]⟩,⟨(some 102),(Aq 5 101),none,5,true,[]⟩,oI 103 6 (Aq 5 5),⟨(some 104),(.call 166 [(cI 3),(.t 103),(.c .nils)]),none,7,false,[3,4,5]⟩,oI 105 8 (mT 8),⟨(some 106),(.hcall 165 [(.t 97),(.t 98),(.t 102),(.t 104),(.t 105)]),none,9,false,[9]⟩] (Cx [Aa 107 0,oI 108 1 (mT 1),oI 109 2 (Ae 4 5),oI 110 3 (Ah 109),oI 111 4 (.iad 5 (.t 110) (cI 3)),oI 112 5 (Aq 5 111),oI 113 6 (Ae 4 5),oI 114 7 (Ah 113),oI 115 8 (.iad 5 (.t 114) (cI 0)),oI 116 9 (Aq 5 115),oI 117 10 (Ae 1 5),oI 118 11 (Ah 117),⟨(some 119),(.hcall 165 [(.t 107),(.t 108),(.t 112),(.t 116),(.t 118)]),none,12,false,[12]⟩] (Cx [oP 120 (Ae 4 5),oI 121 1 (Ah 120),oI 122 2 (.iad 5 (.t 121) (cI 1)),oI 123 3 (Aq 5 122),oI 124 4 (Ae 4 5),oI 125 5 (Ah 124),oI 126 6 (.iad 5 (.t 125) (cI 3)),oI 127 7 (Aq 5 126),⟨(some 128),(.call 167 [(.t 123),(.t 127)]),none,8,true,[]⟩,oI 129 9 (Ae 2 5),⟨(some 130),(Ah 129),none,10,true,[8]⟩,⟨none,(Ax 5 6 128),none,11,false,[10]⟩,oI 7 12 (mT 130)] .ret)))) (Ab [oP 132 (An 18 7),Aa 131 132] (Aj 131 (Ab [Aa 133 0,Aa 134 1,oP 135 (Aq 5 5),oP 136 (.hcall 164 [(.t 133),(.t 134),(.t 135)])] (Cx [Aa 137 0,oI 138 1 (mT 1),oI 139 2 (Ae 4 5),oI 140 3 (Ah 139),oI 141 4 (.iad 5 (.t 140) (cI 2)),oI 142 5 (Aq 5 141),oI 143 6 (Ae 4 5),oI 144 7 (Ah 143),oI 145 8 (.iad 5 (.t 144) (cI 0)),oI 146 9 (Aq 5 145),oI 147 10 (Ae 1 5),oI 148 11 (Ah 147),⟨(some 149),(.hcall 165 [(.t 137),(.t 138),(.t 142),(.t 146),(.t 148)]),none,12,false,[12]⟩] (Cx [Aa 150 0,oI 151 1 (mT 1),oI 152 2 (Ae 4 5),⟨(some 153),(Ah 152),none,3,true,[]⟩,⟨(some 154),(.iad 5 (.t 153) (cI 3)),none,4,true,[]⟩,⟨(some 155),(Aq 5 154),none,5,true,[]⟩,oI 156 6 (Ae 4 5),oI 157 7 (Ah 156),oI 158 8 (.iad 5 (.t 157) (cI 1)),oI 159 9 (Aq 5 158),oI 160 10 (Ae 4 5),oI 161 11 (Ah 160),oI 162 12 (.iad 5 (.t 161) (cI 2)),oI 163 13 (Aq 5 162),⟨(some 164),(.call 167 [(.t 159),(.t 163)]),none,14,true,[3,4,5]⟩,oI 165 15 (Ae 2 5),⟨(some 166),(Ah 165),none,16,false,[14]⟩,⟨(some 167),(.hcall 165 [(.t 150),(.t 151),(.t 155),(.t 164),(.t 166)]),none,17,false,[17]⟩] (Ab [oP 168 (Aq 5 5),oP 169 (.call 166 [(cI 6),(.t 168),(.c .nils)]),Aa 170 8,oN (Ax 5 6 169),Aa 7 170] .ret)))) (Ab [oP 172 (An 18 8),Aa 171 172] (Aj 171 (Ab [Aa 173 0,Aa 174 1,oP 175 (Aq 5 5),oP 176 (.hcall 164 [(.t 173),(.t 174),(.t 175)])] (Cx [Aa 177 0,oI 178 1 (mT 1),oI 179 2 (Ae 4 5),⟨(some 180),(Ah 179),none,3,true,[]⟩,⟨(some 181),(.iad 5 (.t 180) (cI 2)),none,4,true,[]⟩,⟨(some 182),(Aq 5 181),none,5,true,[]⟩,oI 183 6 (Aq 5 5),⟨(some 184),(.call 166 [(cI 6),(.t 183),(.c .nils)]),none,7,false,[3,4,5]⟩,oI 185 8 (mT 8),⟨(some 186),(.hcall 165 [(.t 177),(.t 178),(.t 182),(.t 184),(.t 185)]),none,9,false,[9]⟩] (Cx [oP 187 (Ae 4 5),oI 188 1 (Ah 187),oI 189 2 (.iad 5 (.t 188) (cI 0)),oI 190 3 (Aq 5 189),oI 191 4 (Ae 1 5),⟨(some 192),(Ah 191),none,5,true,[]⟩,⟨none,(Ax 5 6 190),none,6,false,[5]⟩,oI 7 7 (mT 192)] .ret))) (Ab [oP 194 (An 18 9),Aa 193 194] (Aj 193 (Ab [Aa 195 0,Aa 196 1,oP 197 (Aq 5 5),oP 198 (.hcall 164 [(.t 195),(.t 196),(.t 197)])] (Cx [Aa 199 0,oI 200 1 (mT 1),oI 201 2 (Ae 4 5),⟨(some 202),(Ah 201),none,3,true,[]⟩,⟨(some 203),(.iad 5 (.t 202) (cI 2)),none,4,true,[]⟩,⟨(some 204),(Aq 5 203),none,5,true,[]⟩,oI 205 6 (Aq 5 5),⟨(some 206),(.call 166 [(cI 6),(.t 205),(.c .nils)]),none,7,false,[3,4,5]⟩,oI 207 8 (mT 8),⟨(some 208),(.hcall 165 [(.t 199),(.t 200),(.t 204),(.t 206),(.t 207)]),none,9,false,[9]⟩] (Cx [oP 209 (Ae 4 5),⟨(some 210),(Ah 209),none,1,true,[]⟩,⟨(some 211),(.iad 5 (.t 210) (cI 1)),none,2,true,[]⟩,⟨(some 212),(Aq 5 211),none,3,true,[]⟩,⟨(some 213),(Aq 5 5),none,4,true,[]⟩,oI 214 5 (Ae 4 5),oI 215 6 (Ah 214),oI 216 7 (.iad 5 (.t 215) (cI 2)),oI 217 8 (Aq 5 216),⟨(some 218),(.bslice 5 [(.t 217)]),none,9,true,[1,2,3,4]⟩,⟨(some 219),(.call 166 [(cI 8),(.t 213),(.t 218)]),none,10,true,[1,2,3]⟩,⟨(some 220),(.call 167 [(.t 212),(.t 219)]),none,11,true,[]⟩,oI 221 12 (Ae 2 5),⟨(some 222),(Ah 221),none,13,true,[9,10,11]⟩,⟨none,(Ax 5 6 220),none,14,false,[13]⟩,oI 7 15 (mT 222)] .ret))) .skip)))))))))))))))))) (Ab [Aa 223 0,Aa 224 1,oP 225 (Aq 5 5),oP 226 (.hcall 168 [(.t 223),(.t 224),(.t 225)]),oP 227 (.ext (.t 226) 0),oP 228 (.ext (.t 226) 1),oN (Ax 5 6 227),Aa 7 228] .ret))))⟩
def tr136:trF Tryz.prog Tryz.f136=some af136:=by kernel_rfl
attribute [go_sem] af136
end Go.Proofs.YtgfehkhcmnfpaaaGreatDoor.Abs
