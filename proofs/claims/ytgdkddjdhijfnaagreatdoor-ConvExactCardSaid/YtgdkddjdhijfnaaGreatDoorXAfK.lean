import Derived.Test.YtgdkddjdhijfnaaGreatDoorXYl
import Derived.Test.YtgdkddjdhijfnaaGreatDoorXYg
import Derived.Test.YtgdkddjdhijfnaaGreatDoorXVc
import Derived.Test.YtgdkddjdhijfnaaGreatDoorXPc
import Derived.Test.YtgdkddjdhijfnaaGreatDoorXPq
import Derived.Laws.FloatArith
import Derived.Test.YtgdkddjdhijfnaaGreatDoorProg
import Derived.Test.YtgdkddjdhijfnaaGreatDoorChecked
import Derived.WalkKit
import Derived.WalkLawsBesides
import Derived.Test.YtgdkddjdhijfnaaGreatDoorXFg
import Derived.Test.YtgdkddjdhijfnaaGreatDoorXEv
import Derived.KernelRfl
set_option linter.all false
set_option maxRecDepth 20000
set_option maxHeartbeats 4000000
namespace Go.Proofs.YtgdkddjdhijfnaaGreatDoor.Abs
open Go Go.RowKit Go.Proofs.YtgdkddjdhijfnaaGreatDoor
def Ba4(cap:Array Value)(w:World):(invoke (.fn (.func 50) cap) #[]).run Tryz.prog w=.ok (.enter 50 cap) w:=by simp[go_sem]
def Afr{k k' i i':Nat}{v v':SV}{sl:List SV}{G:GV}{T:HOut->GV->Prop}(h:sl.getD k .undef=.gp i 0)(h':sl.getD k' .undef=.gp i' 0)(hv:(∃b,v=.bool b))(Bq:(∃b,v'=.bool b)\/∃n:Int,v'=.int .i64 n)(hG:G[i]?=some [v])(Ng:G[i']?=some [v'])(hT:T (.ret (.tup [v,v'])) G):Ii [.cell k false 1,.cell k' false 1] T ⟨sl,[gOb G]⟩:=by
 unfold Ii Km Uu;rw[q_j] at h h';obtain⟨b,rfl⟩:=hv;rcases Bq with⟨c,rfl⟩|⟨n,rfl⟩
 ·simp[h,h',hG,Ng,Km,Uu,go_sem,seval];exact hT
 ·simp[h,h',hG,Ng,Km,Uu,go_sem,seval];exact hT
section
variable{m j a b:Nat}{G:GV}{T:HOut->GV->Prop}{s mo se g D L:Int}
def Bgm(hG:G[m]?=some (Bx s mo se g j)){T1:HOut->GV->Prop}(h:Dd 51 ((G++[[SV.bool false]]++[[SV.bool false]]).set m (Bx 0 L 0 g j)) [.gp m 0,.gp a 0,.gp b 0,.int .i64 D,.bool true] T1)
  (Cc:∀o G3,T1 o G3->G3[G.length]?=some [.bool false]/\G3[G.length+1]?=some [.bool false] /\
   ((∃c,o=.ret (.bool c)/\T (.ret (.tup [.bool c,.bool true])) ((G3.set G.length [.bool c]).set (G.length+1) [.bool true]))\/(o=.pan (.ife 48)/\T (.ret (.tup [.bool false,.bool false])) ((G3.set G.length [.bool false]).set (G.length+1) [.bool false])))) :
  Dd 32 G [.gp m 0,.gp a 0,.gp b 0,.int .i64 D,.int .i64 L] T:=by
 have hml:=Dh hG;refine Aec mixed Tryz.func32 tr32 [(10,.gp G.length 0),(11,.gp (G.length+1) 0)] rfl (by simp) (by simp) Ba4 ?_;simp only[go_sem,seval];refine⟨_,rfl,by simp,by simp[noW],_,.trans (.promo _ 1 _ _ _ rfl rfl rfl rfl rfl rfl (by simp) (by simp) (by simp[Rl,Jr,St.put]) (fun q ob' h1 h2 h3 h4=>?_)) (.promo _ 2 _ _ _ rfl rfl rfl rfl rfl rfl (by simp) (by simp) (by simp[Rl,Jr,St.put,Dk]) (fun q ob' h1 h2 h3 h4=>?_)),by simp[St.put,Dk],?_⟩
 ·match q,h1 with
  |0,h1=>cases h1;cases h3
  |1,_=>exact absurd rfl h2
  |2,h1=>cases h1;cases h4
  |q+3,h1=>simp[St.put] at h1
 ·match q,h1 with
  |0,h1=>cases h1;cases h3
  |1,h1=>cases h1;cases h3
  |2,_=>exact absurd rfl h2
  |q+3,h1=>simp[St.put] at h1
 have p1:Dk 2 (G.length+1) (Dk 1 G.length (.ref 1 0 0 0))=.gp G.length 0:=rfl;have p2:Dk 2 (G.length+1) (Dk 1 G.length (.ref 2 0 0 0))=.gp (G.length+1) 0:=rfl;simp only[go_sem,seval,Nd,q_jr];have hG0:(G++[[SV.bool false]]++[[SV.bool false]])[m]?=some (Bx s mo se g j):=by rw[q_ju,q_jf hml];exact hG
 generalize hG2:(G++[[SV.bool false]]++[[SV.bool false]])=G2 at *
 simp only[go_sem,seval,p1,p2];refine Ai (Apb hG0 L) ?_;simp only[go_sem,seval,p1,p2];refine Ha h trivial (fun r G3 h3=>?_) (fun u G3 h3=>?_)
 ·obtain⟨r2,r3,⟨c,e,hT⟩|⟨e,_⟩⟩:=Cc _ _ h3;rotate_left
  ·cases e
  cases e;have hl1:G.length≠G.length+1:=by omega
  have r3':(G3.set G.length [SV.bool c])[G.length+1]?=some [.bool false]:=(q_jc hl1).trans r3;simp only[go_sem,seval,r2,r3',p1,p2];unfold z5;refine⟨by simp,_,_,rfl,Aym _ _,fun sl Fb=>?_⟩;refine Afr (Fb (10,.gp G.length 0) (by simp)) (Fb (11,.gp (G.length+1) 0) (by simp)) ⟨_,rfl⟩ (.inl ⟨_,rfl⟩) ?_ (Ex r3') hT;rw[q_jc (Ne.symm hl1)];exact Ex r2
 ·obtain⟨r2,r3,⟨c,e,_⟩|⟨e,hT⟩⟩:=Cc _ _ h3
  ·cases e
  ·cases e;have hl1:G.length≠G.length+1:=by omega
   refine .inl ⟨_,Ayl r2 r3 hl1,fun sl Fb=>Afr (Fb (10,.gp G.length 0) (by simp)) (Fb (11,.gp (G.length+1) 0) (by simp)) ⟨_,rfl⟩ (.inl ⟨_,rfl⟩) ?_ (Ex ((q_jc hl1).trans r3)) hT⟩;rw[q_jc (Ne.symm hl1)];exact Ex r2
end
section
variable{S:SyT}{m j a b:Nat}{G:GV}{Γ:Gh}{M:Mc}{T:HOut->GV->Prop}{ga gb:Ge}
def QkT(S:SyT)(m j:Nat)(Γ:Gh)(X Y:Tm):HOut->GV->Prop:=fun o G'=>∃c k Γ' M',o=.ret (.tup [.bool c,.bool k])/\Gx Γ Γ'/\RInv S m j G' Γ' M'/\M'.guess=0/\(k=true->Eqv S.B 0 true X Y c)
def Bgl(L:Lib S)(hB:Bz S.B)(hI:RInv S m j G Γ M)(hg0:M.guess=0){Lm:Nat}(hL:Lm<=1000000000)(Og:Γ[a]?=some (some ga))(oa:ga.Ok 0)(Rd:Γ[b]?=some (some gb))(ob:gb.Ok 0) :
  Dd 32 G [.gp m 0,.gp a 0,.gp b 0,.int .i64 0,.int .i64 Lm] (QkT S m j Γ (ga.den 0) (gb.den 0)):=by
 obtain⟨steps,most,seen,guess⟩:=M;simp only at hg0;subst hg0;obtain⟨Γ3,i3,x3,l3,k1,k2⟩:=hI.box2 [.bool false] [.bool false];have i4:=i3.mach ⟨0,Lm,0,0⟩ (Nat.zero_le _) hL (Nat.zero_le _) (Nat.zero_le _);have hq:=Bhj (m:=m) (j:=j) L hB 8000000 (d:=0) (eta:=true) i4 (Nat.zero_le _) (by simp) (Nat.zero_le _) (x3.get Og) oa (x3.get Rd) ob;have Av:=hI.len;refine Bgm (s:=steps) (mo:=most) (se:=seen) (g:=0) (j:=j) hI.mc hq (fun o G3 h3=>?_);have fin:∀{Γ4:Gh} {M4:Mc} (r1 r2:List SV),Gx Γ3 Γ4->RInv S m j G3 Γ4 M4->∃Γ',Gx Γ Γ'/\RInv S m j ((G3.set G.length r1).set (G.length+1) r2) Γ' M4:=fun r1 r2 x4 i4=>by
  have i5:=i4.kp_set (x4.get k1) r1;have i6:=i5.kp_set (row:=[.bool false]) (i:=G.length+1) (by rw[q_jc (by omega)];exact x4.get k2) r2;exact⟨_,((x3.trans x4).set (by omega)).set (by omega),i6⟩
 cases h3 with
 |@ret _ Γ4 M4 c x4 i4 m4 s4 Jl e4=>
  obtain⟨Γ',x',i'⟩:=fin [.bool c] [.bool true] x4 i4;exact⟨i4.keep (x4.get k1),i4.keep (x4.get k2),.inl ⟨c,rfl,c,true,Γ',M4,rfl,x',i',m4.guess rfl,fun _=>e4⟩⟩
 |@far _ Γ4 M4 x4 i4 m4 s4 Jl hg4=>exact absurd hg4 (by simp)
 |@out _ Γ4 M4 x4 i4 m4=>
  obtain⟨Γ',x',i'⟩:=fin [.bool false] [.bool false] x4 i4;exact⟨i4.keep (x4.get k1),i4.keep (x4.get k2),.inr ⟨rfl,false,false,Γ',M4,rfl,x',i',m4.guess rfl,fun h=>by cases h⟩⟩
def Alm(f:Nat)(G:GV)(args:List SV)(T:HOut->GV->Prop)(K:Tm->GV->Prop):Prop:=
 (∃u G1,Am f G args (.pan u) G1/\T (.pan u) G1)\/∃r G1,Am f G args (.ret (.agg true (tv r))) G1/\K r G1
def Bc5{D L:Int}{T1:HOut->GV->Prop}(h:Dd 32 G [.gp m 0,.gp a 0,.gp b 0,.int .i64 D,.int .i64 (if 300000<L then 300000 else L)] T1)
  (hr:∀o G3,T1 o G3->∃c k,o=.ret (.tup [.bool c,.bool k])/\(k=true->T (.ret (.bool c)) G3)/\(k=false->∃s mo se g j,G3[m]?=some (Bx s mo se g j)/\Alm 34 (G3.set m (Bx 0 L 0 g j)) [.gp m 0,.gp a 0,.int .i64 D] T fun ra G5=>Alm 34 G5 [.gp m 0,.gp b 0,.int .i64 D] T fun rb G6=>∃v,Con 35 [.agg true (tv ra),.agg true (tv rb)] (.bool v)/\T (.ret (.bool v)) G6)) :
  Dd 21 G [.gp m 0,.gp a 0,.gp b 0,.int .i64 D,.int .i64 L] T:=by
 refine Po mixed Tryz.func21 tr21 ?_;simp only[go_sem,seval];refine Ha h trivial (fun r G3 h3=>?_) (fun u G3 h3=>?_);rotate_left
 ·obtain⟨c,k,e,_⟩:=hr _ _ h3;cases e
 obtain⟨c,k,e,h1,h2⟩:=hr _ _ h3;cases e;cases k with
 |true=>
  have:=h1 rfl;simp only[go_sem,seval];exact this
 |false=>
  obtain⟨s,mo,se,g,j,hG,h4⟩:=h2 rfl;simp only[go_sem,seval];refine Ai (Apb hG L) ?_;simp only[go_sem,seval];rcases h4 with⟨u,G5,o1,o2⟩|⟨ra,G5,o1,o2⟩
  ·exact Db o1 trivial o2
  refine Ai o1 ?_;have h5:=Ch ra;rcases o2 with⟨u,G6,q1,q2⟩|⟨rb,G6,q1,v,q2,q3⟩
  ·generalize tv ra=ra at *
   simp only[go_sem,seval,h5];exact Db q1 trivial q2
  ·have h6:=Ch rb;generalize tv ra=ra at *
   generalize tv rb=rb at *
   repeat' first
   |simp only[go_sem,seval,h5,h6]
   |refine Ai q1 ?_
   |refine Af q2 ?_
   exact q3
end
section
variable{B:BT}
def Ae5(hB:Bz B){d N:Nat}{T r:Tm}(h:NR B d T N r):∀{t:Tm} {C:Nat},T=lv d t->Sf C t->Nf B t r:=by
 induction h with
 |@fv d n T l h=>
  intro t C e hs;obtain⟨t',e1,s1,p1⟩:=Aed hB h e hs
  by_cases h2:t'.k=2
  ·obtain⟨i,e2,e3⟩:=Wq (d:=d) s1 h2;subst e2;rw[e3] at e1;have hl:l=(d:Int)-1-i:=congrArg Tm.i e1;have hr:Tm.mk 2 ((d:Int)-1-l) 0 0 []=vT i:=by
    unfold vT;congr 1;omega
   rw[hr];exact⟨p1,.mk (Gz (by unfold vT;simp[Tm.k])) (fun p s h=>by cases h)⟩
  ·have:=(lv_k (d:=d) s1 h2).1;rw[<-e1] at this;exact absurd this.symm (sf_k s1)
 |@nd d n T k i j n' l rs Ns h hn h0 hN hr hk ih=>
  intro t C e hs;obtain⟨t',e1,s1,p1⟩:=Aed hB h e hs;obtain⟨tk,k2⟩:=Rk (d:=d) s1 (c:=k) h0 (by rw[<-e1];rfl);have k2':t'.k≠2:=by rw[tk];exact k2
  obtain⟨_,t1,t2,t3,t4⟩:=lv_k (d:=d) s1 k2';rw[<-e1] at t1 t2 t3 t4;have Ja:=Ye hB s1 (by rw[<-e1];exact hn);obtain⟨k',i',j',m',tl⟩:=t';simp only[Tm.k,Tm.i,Tm.j,Tm.n,Tm.kids] at tk t1 t2 t3 t4 k2';subst tk t1 t2 t3;have Oi:∀(p:Nat) s s',tl[p]?=some s->rs[p]?=some s'->Nf B s s':=by
   intro p s s' h1 h2;have hp:=Dh h1;have g1:=q_f (show p<l.length by omega);have g2:=q_f (show p<Ns.length by omega);have g1':(lv d (.mk k' i j n' tl)).kids[p]?=some l[p]:=by rw[<-e1];exact g1
   obtain⟨s0,b1,b2⟩:=Ajq (d:=d) s1 k2' g1';have b1:tl[p]?=some s0:=b1;rw[h1] at b1;cases b1;exact ih p _ _ s' g1 g2 h2 b2 (Ss s1 p s h1)
  have Mh:=Yq hB k2' rs [] tl s1 (by omega) (fun p s s' h1 h2=>(Oi p s s' h1 h2).1);have Lg:=(Ap3 hB Mh s1 Ja).1;refine⟨p1.trans Mh,.mk ?_ (fun p s hp=>?_)⟩
  ·cases Lg with
   |mk h _=>exact h
  ·have hp':=Dh hp;have hp':p<rs.length:=hp';have hp:rs[p]?=some s:=hp;exact (Oi p _ s (q_f (show p<tl.length by omega)) hp).2
def Eqv.of_nr(hB:Bz B){d N N':Nat}{X Y r s:Tm}(h1:NR B d X N r)(h2:NR B d Y N' s):Eqv B d true X Y (Alk r s):=by
 intro C t u e1 e2 s1 s2;rw[if_pos rfl];intro r' s' n1 n2;rw[n1.one hB s1 (Ae5 hB h1 e1 s1),n2.one hB s2 (Ae5 hB h2 e2 s2)]
end
section
variable{i j n i' j' n':Int}{a0 a1 a2 a3 b0 b1 b2 b3:Tm}{v v':Bool}
def Avh(H:Con 35 [.agg true (tv a1),.agg true (tv b1)] (.bool v)):Con 35 [.agg true (tv (.mk 14 i j n [a0,a1])),.agg true (tv (.mk 14 i' j' n' [b0,b1]))] (.bool v):=by
 refine Au mixed Tryz.func35 tr35 ?_;rw[As,As];simp only[q_h,q_i]
 repeat' first
  |simp (config:={ maxSteps:=2000000 }) only[go_sem,seval]
  |refine Af (H) ?_
  |rfl
def Avm(H:Con 35 [.agg true (tv a2),.agg true (tv b2)] (.bool v))(H':v=true->Con 35 [.agg true (tv a3),.agg true (tv b3)] (.bool v')):Con 35 [.agg true (tv (.mk 17 i j n [a0,a1,a2,a3])),.agg true (tv (.mk 17 i' j' n' [b0,b1,b2,b3]))] (.bool (v && v')):=by
 refine Au mixed Tryz.func35 tr35 ?_;rw[As,As];simp only[q_h,q_i];cases v with
 |false=>repeat' first
        |simp (config:={ maxSteps:=2000000 }) only[go_sem,seval]
        |refine Af (H) ?_
        |rfl
 |true=>
  have H2:=H' rfl
  repeat' first
   |simp (config:={ maxSteps:=2000000 }) only[go_sem,seval]
   |refine Af (H) ?_
   |refine Af (H2) ?_
   |rfl
variable{k k':Int}{l l':List Tm}{p q:Tm}
def Ant:Con 59 [.int .i64 0] (.agg true (tv (vT 0))):=Am4 0
def Anc(k:Int)(p q:Tm):Con 58 [.int .i64 k,.int .i64 0,.int .i64 0,.int .i64 0,.dsl 5 [tv p,tv q]] (.agg true (tv (.mk k 0 0 0 [p,q]))):=Ane k 0 0 0 [p,q] (by simp) (by simp)
def Ac2(k:Int)(p:Tm):Con 58 [.int .i64 k,.int .i64 0,.int .i64 0,.int .i64 0,.dsl 5 [tv p]] (.agg true (tv (.mk k 0 0 0 [p]))):=Ane k 0 0 0 [p] (by simp) (by simp)
def Avi(hk:k≠14)(hl:Con 57 [.agg true (tv (.mk k i' j' n' l)),.int .i64 1,.int .i64 0] (.tup [.agg true (tv p),.bool true]))(H:Con 35 [.agg true (tv a1),.agg true (tv (.mk 15 0 0 0 [p,vT 0]))] (.bool v)):Con 35 [.agg true (tv (.mk 14 i j n [a0,a1])),.agg true (tv (.mk k i' j' n' l))] (.bool v):=by
 refine Au mixed Tryz.func35 tr35 ?_;have hv:=Ant;have ho:=Anc 15 p (vT 0);have hb:=Ao hk;rw[As] at hl;rw[As 14,As k];simp only[q_h,q_i];generalize l.map tv=rows at *
 repeat' first
  |simp (config:={ maxSteps:=2000000 }) only[go_sem,seval,hb]
  |refine Af (hl) ?_
  |refine Af (hv) ?_
  |refine Af (ho) ?_
  |refine Af (H) ?_
  |rfl
def Avj(hk:k≠14)(hl:Con 57 [.agg true (tv (.mk k i j n l)),.int .i64 1,.int .i64 0] (.tup [.agg true (tv p),.bool true]))(H:Con 35 [.agg true (tv (.mk 15 0 0 0 [p,vT 0])),.agg true (tv b1)] (.bool v)):Con 35 [.agg true (tv (.mk k i j n l)),.agg true (tv (.mk 14 i' j' n' [b0,b1]))] (.bool v):=by
 refine Au mixed Tryz.func35 tr35 ?_;have hv:=Ant;have ho:=Anc 15 p (vT 0);have hb:=Ao hk;rw[As] at hl;rw[As 14,As k];simp only[q_h,q_i];generalize l.map tv=rows at *
 cases h17:(k==17) with
 |true=>repeat' first
       |simp (config:={ maxSteps:=2000000 }) only[go_sem,seval,hb,h17]
       |refine Af (hl) ?_
       |refine Af (hv) ?_
       |refine Af (ho) ?_
       |refine Af (H) ?_
       |rfl
 |false=>repeat' first
        |simp (config:={ maxSteps:=2000000 }) only[go_sem,seval,hb,h17]
        |refine Af (hl) ?_
        |refine Af (hv) ?_
        |refine Af (ho) ?_
        |refine Af (H) ?_
        |rfl
def Avl(hk:k≠14)(Dj:k≠17)(H:Con 35 [.agg true (tv a2),.agg true (tv (.mk 18 0 0 0 [.mk k i' j' n' l]))] (.bool v))(H':v=true->Con 35 [.agg true (tv a3),.agg true (tv (.mk 19 0 0 0 [.mk k i' j' n' l]))] (.bool v')):Con 35 [.agg true (tv (.mk 17 i j n [a0,a1,a2,a3])),.agg true (tv (.mk k i' j' n' l))] (.bool (v && v')):=by
 refine Au mixed Tryz.func35 tr35 ?_;have o1:=Ac2 18 (.mk k i' j' n' l);have o2:=Ac2 19 (.mk k i' j' n' l);have hb:=Ao hk;have Dc:=Ao Dj;rw[As 17];simp only[q_h,q_i];rw[As] at o1 o2;rw[As];generalize l.map tv=rows at *
 cases v with
 |false=>repeat' first
        |simp (config:={ maxSteps:=2000000 }) only[go_sem,seval,hb,Dc]
        |refine Af (o1) ?_
        |refine Af (H) ?_
        |rfl
 |true=>
  have H2:=H' rfl
  repeat' first
   |simp (config:={ maxSteps:=2000000 }) only[go_sem,seval,hb,Dc]
   |refine Af (o1) ?_
   |refine Af (o2) ?_
   |refine Af (H) ?_
   |refine Af (H2) ?_
   |rfl
def Avk(hk:k≠14)(Dj:k≠17)(H:Con 35 [.agg true (tv (.mk 18 0 0 0 [.mk k i j n l])),.agg true (tv b2)] (.bool v))(H':v=true->Con 35 [.agg true (tv (.mk 19 0 0 0 [.mk k i j n l])),.agg true (tv b3)] (.bool v')):Con 35 [.agg true (tv (.mk k i j n l)),.agg true (tv (.mk 17 i' j' n' [b0,b1,b2,b3]))] (.bool (v && v')):=by
 refine Au mixed Tryz.func35 tr35 ?_;have o1:=Ac2 18 (.mk k i j n l);have o2:=Ac2 19 (.mk k i j n l);have hb:=Ao hk;have Dc:=Ao Dj;rw[As 17];simp only[q_h,q_i];rw[As] at o1 o2;rw[As];generalize l.map tv=rows at *
 cases v with
 |false=>repeat' first
        |simp (config:={ maxSteps:=2000000 }) only[go_sem,seval,hb,Dc]
        |refine Af (o1) ?_
        |refine Af (H) ?_
        |rfl
 |true=>
  have H2:=H' rfl
  repeat' first
   |simp (config:={ maxSteps:=2000000 }) only[go_sem,seval,hb,Dc]
   |refine Af (o1) ?_
   |refine Af (o2) ?_
   |refine Af (H) ?_
   |refine Af (H2) ?_
   |rfl
end
def Avn(k i j n k' i' j' n':Int)(x1:k≠14)(x2:k≠17)(y1:k'≠14)(y2:k'≠17)(rows rows':GV)(E:Nat->Bool)(h5:∀r∈rows,r.length=5)(Gj:∀r∈rows',r.length=5)(h2:rows.length*56<=140737488355328)
  (H:∀x,x<rows.length->x<rows'.length->Con 35 [.agg true (rows[x]?.getD []),.agg true (rows'[x]?.getD [])] (.bool (E x))) (r0:Bool)
  (hn:¬(k=k'/\i=i'/\j=j'/\n=n'/\rows.length=rows'.length)->r0=false)
  (hf:k=k'->i=i'->j=j'->n=n'->rows.length=rows'.length->∀x,x<rows.length->E x=false->r0=false)
  (ht:k=k'->i=i'->j=j'->n=n'->rows.length=rows'.length->(∀x,x<rows.length->E x=true)->r0=true) :
  Con 35 [.agg true [.int .i64 k,.int .i64 i,.int .i64 j,.int .i64 n,.dsl 5 rows],.agg true [.int .i64 k',.int .i64 i',.int .i64 j',.int .i64 n',.dsl 5 rows']] (.bool r0):=by
 refine Au mixed Tryz.func35 tr35 ?_;have b1:=Ao x1;have b2:=Ao x2;have c1:=Ao y1;have c2:=Ao y2
 by_cases a1:k=k'
 rotate_left
 ·have q:(k != k')=true:=by simp[a1]
  rw[hn (fun h=>a1 h.1)];simp only[go_sem,seval,b1,b2,c1,c2,q]
 have q1:(k != k')=false:=by simp[a1]
 by_cases a2:i=i'
 rotate_left
 ·have q:(i != i')=true:=by simp[a2]
  rw[hn (fun h=>a2 h.2.1)];simp only[go_sem,seval,b1,b2,c1,c2,q1,q]
 have q2:(i != i')=false:=by simp[a2]
 by_cases a3:j=j'
 rotate_left
 ·have q:(j != j')=true:=by simp[a3]
  rw[hn (fun h=>a3 h.2.2.1)];simp only[go_sem,seval,b1,b2,c1,c2,q1,q2,q]
 have q3:(j != j')=false:=by simp[a3]
 by_cases a4:n=n'
 rotate_left
 ·have q:(n != n')=true:=by simp[a4]
  rw[hn (fun h=>a4 h.2.2.2.1)];simp only[go_sem,seval,b1,b2,c1,c2,q1,q2,q3,q]
 have q4:(n != n')=false:=by simp[a4]
 by_cases a5:rows.length=rows'.length
 rotate_left
 ·have q:((rows.length:Int) != (rows'.length:Int))=true:=by simp;omega
  rw[hn (fun h=>a5 h.2.2.2.2)];simp only[go_sem,seval,b1,b2,c1,c2,q1,q2,q3,q4,q]
  try intros
 have q5:((rows.length:Int) != (rows'.length:Int))=false:=by simp;omega
 simp only[go_sem,seval,b1,b2,c1,c2,q1,q2,q3,q4,q5];intros;refine Rt (fun x=>⟨(.J::.J::.ref 0 0 0 0::.ref 1 0 0 0::.bool false::Bo (Bo (Bo (Bo (Bo (jk8 (jk4 (jk2 (.J::.int .i64 rows.length::.int .i64 x::jk8 (jk4 (jk2 (.J::[])))))))))))),[⟨true,5,[[.int .i64 k,.int .i64 i,.int .i64 j,.int .i64 n,.dsl 5 rows]],0,0,true⟩,⟨true,5,[[.int .i64 k',.int .i64 i',.int .i64 j',.int .i64 n',.dsl 5 rows']],0,0,true⟩]⟩) rows.length (fun x=>E x=true) (fun x hx hp=>?_) ?_
 ·simp only[go_sem,seval];refine⟨fun h=>?_,fun h=>?_⟩
  ·have Ag:=q_kx h;have Cr:x<rows.length:=by omega
   have Wb:x<rows'.length:=by omega
   have Aaz:(x:Int)<(rows'.length:Int):=by omega
   have e0:(0:Int)<=(x:Int):=by omega
   have g1:=h5 _ (Hi (d:=[]) Cr);have g2:=Gj _ (Hi (d:=[]) Wb);simp only[go_sem,seval,Ag,Aaz,e0,g1,g2];refine Af (H x Cr Wb) ?_;cases hE:E x<;>simp only[go_sem,seval]
   ·rw[hf a1 a2 a3 a4 a5 x Cr hE]
   ·refine⟨Cr,?_⟩;rw[w64 (n:=(x:Int)+1) (by unfold fit;omega)];exact Bk (by simp[Ba])
  ·have Fy:=q_ky h;have Ml:x=rows.length:=by omega
   simp only[go_sem,seval,h];rw[ht a1 a2 a3 a4 a5 (fun y hy=>hp y (by omega))]
 ·exact Bk (by simp[Ba])
def Ay6(t:Tm):TOk t->∀{B:Nat} (fr:Int),Sf B t->B+dpt t<=2147483646->0<=fr->fr+2*La t<=1000000000000->Con 57 [.agg true (tv t),.int .i64 1,.int .i64 fr] (Er ((Gc 1 fr t).map tv)):=by
 induction t using Tm.ind with
 |h kk i j n l ih=>
  intro hok B fr hs hB hf Dc;cases hok with
  |mk _ _ _ _ _ f1 f2 f3 f4 hb hl=>
  rw[Aau] at Dc;have h:=Ay7 kk i j n 1 fr (l.map tv) (fun p r=>onT (fun t=>(Gc 1 (fr+Cf kk (p:Nat)) t).map tv) none r) (by simpa using hb) (rows5 l) (fun hk=>by
    subst hk;obtain⟨q,rfl,_,_,_,hq⟩:=hs.vr;omega) (by decide) hf (by omega)
   (fun p r hr u hu=>by
    obtain⟨t,ht,rfl⟩:=q_lc.1 hr;simp only[Jg] at hu;cases he:Gc 1 (fr+Cf kk (p:Nat)) t with
    |none=>rw[he] at hu;cases hu
    |some v=>rw[he] at hu;cases hu;exact Ch v)
   (fun p r Fu=>by
    obtain⟨t,ht,rfl⟩:=q_lc.1 Fu;simp only[Jg];obtain⟨q,hq⟩:=List.mem_iff_getElem?.1 ht;have hm:=Aia ht;have hbl:=Qq kk p;have hd:=Lu (k:=kk) (i:=i) (j:=j) (n:=n) hq;exact ih t ht (hl t ht) _ (hs.kid hq) (by omega) (by omega) (by omega))
  rw[Arg,<-As] at h;exact h
def Ald:∀l:List Tm,wzL l=(l.map wz).sum:=by
 intro l
 induction l with
 |nil=>rfl
 |cons t l ih=>rw[wzL,ih];simp
def Ale(t:Tm):tsz t<=wz t/\La t<=wz t:=by
 induction t using Tm.ind with
 |h k i j n l ih=>
  rw[Ia,Aau,Pb,Ald];have h1:(l.map tsz).sum<=(l.map wz).sum:=by
   clear k i j n
   induction l with
   |nil=>simp
   |cons t l ih2=>
    have:=(ih t (List.mem_cons_self ..)).1;have:=ih2 (fun u hu=>ih u (List.mem_cons_of_mem _ hu));simp only[q_h,List.sum_cons];omega
  have h2:Si l<=(l.map wz).sum:=Aps fun t ht=>by
   have h3:=(ih t ht).2;obtain⟨p,hp⟩:=List.mem_iff_getElem?.1 ht;have:=Pa hp;rw[Ald] at this;omega
  split<;>omega
def Am2{C:Nat}{b:Tm}(hs:Sf C b)(hC:C+2*wz b<=2000000000):Con 57 [.agg true (tv b),.int .i64 1,.int .i64 0] (.tup [.agg true (tv (Ct 1 b)),.bool true]):=by
 obtain⟨w1,w2⟩:=Ale b;have hd:=Ks b;have hc:cap=1099511627776:=rfl;have h:=Ay6 b (Akm hs (by omega)) 0 hs (by omega) (Int.le_refl 0) (by omega);have h2:=Aew (k:=1) hs (fr:=0) (by omega);rw[show Gc 1 0 b=Gc ((1:Nat):Int) ((0:Nat):Int) b from rfl,h2] at h;exact h
def sf14{C:Nat}{a:Tm}(hs:Sf C a)(h:a.k=14):∃i j n a0 a1,a=.mk 14 i j n [a0,a1]:=by
 have hl:=len14 hs h;obtain⟨k,i,j,n,l⟩:=a;have h:k=14:=h;subst h
 match l,hl with
 |[a0,a1],_=>exact⟨i,j,n,a0,a1,rfl⟩
def sf17{C:Nat}{a:Tm}(hs:Sf C a)(h:a.k=17):∃i j n a0 a1 a2 a3,a=.mk 17 i j n [a0,a1,a2,a3]:=by
 have hl:=len17 hs h;obtain⟨k,i,j,n,l⟩:=a;have h:k=17:=h;subst h
 match l,hl with
 |[a0,a1,a2,a3],_=>exact⟨i,j,n,a0,a1,a2,a3,rfl⟩
def Xi{i j n:Int}{a0 a1:Tm}:ap0 (.mk 14 i j n [a0,a1])=a1:=by unfold ap0;rw[if_pos (show (Tm.mk 14 i j n [a0,a1]).k=14 from rfl)];rfl
def t9{a:Tm}(h:a.k≠14):ap0 a=.mk 15 0 0 0 [Ct 1 a,vT 0]:=by unfold ap0;rw[if_neg h];rfl
def Wr{a:Tm}{k:Int}{p:Nat}(h:a.k≠17):pt0 k p a=.mk k 0 0 0 [a]:=by unfold pt0;rw[if_neg h];rfl
def Ace:∀{l m:List Tm},l.length=m.length->(Ji l m=true↔∀x,x<l.length->Alk (l[x]?.getD default) (m[x]?.getD default)=true):=by
 intro l
 induction l with
 |nil=>intro m h;cases m with
  |nil=>simp[Ji]
  |cons=>cases h
 |cons a l ih=>intro m h;cases m with
  |nil=>cases h
  |cons b m=>
   unfold Ji;rw[q_jl,ih (by simpa using h)];constructor
   ·rintro ⟨h1,h2⟩ x hx;cases x with
    |zero=>simpa using h1
    |succ x=>simpa using h2 x (by simpa using hx)
   ·intro h1;exact⟨by simpa using h1 0 (by simp),fun x hx=>by simpa using h1 (x+1) (by simpa using hx)⟩
def Af0{b:Nat}{t:Tm}(h:Sf b t):∀{c:Nat},b<=c->Sf c t:=by
 induction h with
 |var h=>intro c hc;exact .var (by omega)
 |nd i j n h2 h0 hf hl _ ih=>intro c hc;exact .nd i j n h2 h0 hf hl (fun p t hp=>ih p t hp (by omega))
def Afz{C:Nat}{a:Tm}(h:Sf C a):a.kids.length<=100:=by
 cases h with
 |var=>simp[vT,Tm.kids]
 |@nd b k i j n l h2 h0 hf hl hk=>have:=Py k n;simp only[Tm.kids];omega
def Ay2:∀(f:Nat) {C:Nat} {a b:Tm},Sf C a->Sf C b->wz a+wz b<=f->C+2*f<=2000000000->Con 35 [.agg true (tv a),.agg true (tv b)] (.bool (Alk a b)):=by
 intro f
 induction f with
 |zero=>intro C a b _ _ h;have:=Pc a;omega
 |succ f ih=>
  intro C a b sa sb hf hC
  by_cases h14:a.k=14\/b.k=14
  ·have e:=Acf sa sb h14;have wa:=Qp sa;have wb:=Qp sb;have H:=ih (My sa) (My sb) (by omega) (by omega);rw[<-e] at H
   by_cases a14:a.k=14
   ·obtain⟨i,j,n,a0,a1,rfl⟩:=sf14 sa a14;rw[Xi] at H
    by_cases b14:b.k=14
    ·obtain⟨i',j',n',b0,b1,rfl⟩:=sf14 sb b14;rw[Xi] at H;exact Avh H
    ·rw[t9 b14] at H;have hl:=Am2 sb (by omega);obtain⟨k,i',j',n',l⟩:=b;exact Avi b14 hl H
   ·have b14:b.k=14:=h14.resolve_left a14;obtain⟨i',j',n',b0,b1,rfl⟩:=sf14 sb b14;rw[Xi,t9 a14] at H;have hl:=Am2 sa (by omega);obtain⟨k,i,j,n,l⟩:=a;exact Avj a14 hl H
  ·have na:a.k≠14:=fun h=>h14 (.inl h)
   have nb:b.k≠14:=fun h=>h14 (.inr h)
   by_cases h17:a.k=17\/b.k=17
   ·have e:=Agh sa sb h14 h17;rw[e];have a18:=Hf 18 (.inl rfl) 2 a;have a19:=Hf 19 (.inr rfl) 3 a;have b18:=Hf 18 (.inl rfl) 2 b;have b19:=Hf 19 (.inr rfl) 3 b;have H:=ih (Gf sa 18 2 (.inl ⟨rfl,rfl⟩)) (Gf sb 18 2 (.inl ⟨rfl,rfl⟩)) (by omega) (by omega);have H':=ih (Gf sa 19 3 (.inr ⟨rfl,rfl⟩)) (Gf sb 19 3 (.inr ⟨rfl,rfl⟩)) (by omega) (by omega)
    by_cases a17:a.k=17
    ·obtain⟨i,j,n,a0,a1,a2,a3,rfl⟩:=sf17 sa a17
     by_cases b17:b.k=17
     ·obtain⟨i',j',n',b0,b1,b2,b3,rfl⟩:=sf17 sb b17;exact Avm H (fun _=>H')
     ·rw[Wr b17] at H H' |-;rw[Wr b17];obtain⟨k,i',j',n',l⟩:=b;exact Avl nb b17 H (fun _=>H')
    ·have b17:b.k=17:=h17.resolve_left a17;obtain⟨i',j',n',b0,b1,b2,b3,rfl⟩:=sf17 sb b17;rw[Wr a17] at H H' |-;rw[Wr a17];obtain⟨k,i,j,n,l⟩:=a;exact Avk na a17 H (fun _=>H')
   ·have ma:a.k≠17:=fun h=>h17 (.inl h)
    have mb:b.k≠17:=fun h=>h17 (.inr h)
    have e:=Xb sa sb h14 h17;have f1:¬(a.k=b.k/\a.i=b.i/\a.j=b.j/\a.n=b.n)->Alk a b=false:=fun h=>by rw[e,q_je h,q_lh]
    have f2:a.k=b.k->a.i=b.i->a.j=b.j->a.n=b.n->Alk a b=Ji a.kids b.kids:=fun h1 h2 h3 h4=>by rw[e,q_jn ⟨h1,h2,h3,h4⟩,q_lf]
    clear e;have ka:=Qa (a:=a);have kb:=Qa (a:=b);have Ud:=Afz sa;have hlb:=Afz sb;obtain⟨k,i,j,n,l⟩:=a;obtain⟨k',i',j',n',l'⟩:=b;simp only[Tm.k,Tm.i,Tm.j,Tm.n,Tm.kids] at na nb ma mb ka kb Ud hlb;have e1:(l.map tv).length=l.length:=by simp
    have e2:(l'.map tv).length=l'.length:=by simp
    have Av:k=k'->n=n'->l.length=l'.length:=fun h1 h2=>by
     subst h1 h2
     by_cases h2:k=2
     ·subst h2;obtain⟨_,_,_,_,rfl,_⟩:=sa.vr;obtain⟨_,_,_,_,rfl,_⟩:=sb.vr;rfl
     ·have g1:=(sa.node h2).2.2;have g2:=(sb.node h2).2.2;omega
    rw[As,As];refine Avn k i j n k' i' j' n' na ma nb mb (l.map tv) (l'.map tv) (fun x=>Alk (l[x]?.getD default) (l'[x]?.getD default)) (rows5 l) (rows5 l') (by omega) (fun x hx Bu=>?_) _ (fun h=>?_) (fun a1 a2 a3 a4 a5 x hx hE=>?_) (fun a1 a2 a3 a4 a5 hE=>?_)
    ·rw[e1] at hx;rw[e2] at Bu;rw[q_ji,q_ji,q_f hx,q_f Bu];have s1:=Af0 (sa.kid (q_f hx)) (c:=C+2) (by have:=Pg k x;omega);have s2:=Af0 (sb.kid (q_f Bu)) (c:=C+2) (by have:=Pg k' x;omega);have w1:=Pa (q_f hx);have w2:=Pa (q_f Bu);exact ih s1 s2 (by omega) (by omega)
    ·refine f1 fun ⟨h1,h2,h3,h4⟩=>?_
     exact h ⟨h1,h2,h3,h4,by rw[e1,e2];exact Av h1 h4⟩
    ·rw[f2 a1 a2 a3 a4];show Ji l l'=false;rw[e1,e2] at a5;rw[e1] at hx;cases hA:Ji l l' with
     |false=>rfl
     |true=>rw[(Ace a5).1 hA x hx] at hE;cases hE
    ·rw[f2 a1 a2 a3 a4];rw[e1,e2] at a5;rw[e1] at hE;exact (Ace a5).2 hE
def Agg(t:Tm):wz t<=8*tsz t:=by
 induction t using Tm.ind with
 |h k i j n l ih=>
  rw[Ia,Pb,Ald];have h1:(l.map wz).sum<=8*(l.map tsz).sum:=by
   clear k i j n
   induction l with
   |nil=>simp
   |cons t l ih2=>
    have:=ih t (List.mem_cons_self ..);have:=ih2 (fun u hu=>ih u (List.mem_cons_of_mem _ hu));simp only[q_h,List.sum_cons];omega
  split<;>omega
section
variable{S:SyT}{m j a b:Nat}{G:GV}{Γ:Gh}{M:Mc}{ga gb:Ge}
inductive MsP(S:SyT)(m j:Nat)(Γ:Gh)(X Y:Tm)(L:Nat):HOut->GV->Prop
 |ret {G':GV} {Γ':Gh} {M':Mc} {b:Bool} (x:Gx Γ Γ') (hi:RInv S m j G' Γ' M') (he:Eqv S.B 0 true X Y b):MsP S m j Γ X Y L (.ret (.bool b)) G'
 |out {G':GV} {Γ':Gh} {M':Mc} (x:Gx Γ Γ') (hi:RInv S m j G' Γ' M') (h:∀N r N' s,NR S.B 0 X N r->NR S.B 0 Y N' s->L<N+N'\/8000000<tsz r+tsz s):MsP S m j Γ X Y L (.pan Sz) G'
def Bc4(Lb:Lib S)(hB:Bz S.B)(hI:RInv S m j G Γ M)(hg0:M.guess=0){L:Nat}(hL:L<=1000000000)(Og:Γ[a]?=some (some ga))(oa:ga.Ok 0)(Rd:Γ[b]?=some (some gb))(ob:gb.Ok 0){t u:Tm}{C:Nat}(et:ga.den 0=lv 0 t)(eu:gb.den 0=lv 0 u)(st:Sf C t)(su:Sf C u)(hC:C<=1048576) :
  Dd 21 G [.gp m 0,.gp a 0,.gp b 0,.int .i64 0,.int .i64 L] (MsP S m j Γ (ga.den 0) (gb.den 0) L):=by
 obtain⟨Lm,h1,h2⟩:∃Lm:Nat,Lm<=1000000000/\(if (300000:Int)<(L:Int) then (300000:Int) else (L:Int))=Lm:=by
  by_cases h:(300000:Int)<(L:Int)
  ·exact⟨300000,by decide,by rw[if_pos h];rfl⟩
  ·exact⟨L,hL,by rw[if_neg h]⟩
 have hq:=Bgl Lb hB hI hg0 h1 Og oa Rd ob;rw[<-h2] at hq;refine Bc5 hq (fun o G3 h3=>?_);obtain⟨c,k,Γ',M',e,x,hi,hg,hE⟩:=h3;refine⟨c,k,e,fun hk=>.ret x hi (hE hk),fun hk=>⟨M'.steps,M'.most,M'.seen,M'.guess,j,hi.mc,?_⟩⟩;have i5:=hi.mach ⟨0,L,0,M'.guess⟩ (Nat.zero_le _) hL (Nat.zero_le _) hi.gu;obtain⟨out,G6,q1,p1⟩:=Ata Lb 8000000 (d:=0) (id:=a) i5 (Nat.zero_le _) (by simp) (Nat.zero_le _) (x.get Og) oa;cases p1 with
 |far x1 Pq mm h=>exact absurd h (by simp only;omega)
 |out x1 Pq mm h=>
  refine .inl ⟨_,_,q1,.out (x.trans x1) Pq fun N r N' s n1 n2=>?_⟩;have:=h N r n1;simp only at this;omega
 |@ret _ Γ6 M6 N r x1 Pq mm hn hs Ga h8=>
  have Pt:=mm.most;have Bw:=mm.guess hg;simp only at Pt hs Ga;refine .inr ⟨r,_,q1,?_⟩;obtain⟨out,G7,q2,p2⟩:=Ata Lb 8000000 (d:=0) (id:=b) Pq h8 (by omega) (Nat.zero_le _) (x1.get (x.get Rd)) ob;cases p2 with
  |far x2 hi2 mm2 h=>exact absurd h (by omega)
  |out x2 hi2 mm2 h=>
   refine .inl ⟨_,_,q2,.out ((x.trans x1).trans x2) hi2 fun N1 r1 N' s n1 n2=>?_⟩;obtain⟨rfl,rfl⟩:=NR.det hn n1;have:=h N' s n2;omega
  |@ret _ Γ7 M7 N' s x2 hi2 mm2 Lg Wg hse2 h82=>
   have sr:=(Ae5 hB hn et st).sf hB st;have ss:=(Ae5 hB Lg eu su).sf hB su;have w1:=Agg r;have w2:=Agg s;exact .inr ⟨s,_,q2,_,Ay2 _ sr ss (q_ja _) (by omega),.ret ((x.trans x1).trans x2) hi2 (.of_nr hB hn Lg)⟩
end
def Ba3{S:SyT}(K:GV)(t:Tm)(L:Nat)(hL:L<=1000000000) :
  RInv S (K.length+1) K.length (K++[[.undef],Bx 0 L 0 0 K.length,thR ⟨t,[],false,none,none⟩]) (K.map (fun r=>some (.kp r))++[none,none,some (.cl t [])]) ⟨0,L,0,0⟩:=by
 refine⟨by simp,?_,?_,?_,by omega,⟨[],?_,fun p hp=>by cases hp⟩,fun id g hg=>?_,Nat.zero_le _,hL,Nat.zero_le _,Nat.zero_le _⟩
 ·rw[q_jj (by omega)];simp[Mc.row]
 ·rw[q_jj (by simp)];simp
 ·rw[q_jj (by simp)];simp
 ·rw[q_jj (by omega)];simp[It]
 ·rcases q_jo id K.length with h|h
  ·rw[q_jf (by simpa using h),q_ji,q_f h] at hg;simp only[q_jh,q_b] at hg;subst hg;exact⟨⟨t,[],false,none,none⟩,⟨by rw[q_jf h,q_f h],rfl⟩,fun v hv=>by cases hv⟩
  ·rw[q_jj (by simpa using h)] at hg;simp only[q_g] at hg;have h3:id-K.length=2:=by
    match hk:id-K.length,hg with
    |0,hg=>simp at hg
    |1,hg=>simp at hg
    |2,_=>rfl
    |n+3,hg=>simp at hg
   rw[h3] at hg;simp only[q_kf,q_jv,q_b] at hg;subst hg;refine⟨⟨t,[],false,none,none⟩,⟨?_,rfl,rfl,⟨rfl,fun q i hq=>by cases hq⟩,fun v hv=>by cases hv⟩,fun v hv=>by cases hv⟩;rw[q_jj h,h3];rfl
def kept{S:SyT}{m j:Nat}{G':GV}{Γ':Gh}{M':Mc}{K:GV}{Δ:Gh}(x:Gx (K.map (fun r=>some (.kp r))++Δ) Γ')(hi:RInv S m j G' Γ' M'){i:Nat}{r:List SV}(h:K[i]?=some r):G'[i]?=some r:=by
 refine hi.keep (x.get ?_);rw[q_jf (by simpa using Dh h),q_ji,h];rfl
def Ba2(cap:Array Value)(w:World):(invoke (.fn (.func 18) cap) #[]).run Tryz.prog w=.ok (.enter 18 cap) w:=by simp[go_sem]
section
variable{G:GV}{T:HOut->GV->Prop}
def cvG(G:GV)(t u:Tm)(L:Int):GV:=G++[[SV.bool false]]++[[SV.int .i64 0]]++[[.undef],Bx 0 L 0 0 (G.length+2)]++[thR ⟨t,[],false,none,none⟩]++[thR ⟨u,[],false,none,none⟩]
def A2b{t u:Tm}(ht:TOk t)(hu:TOk u)(pt:Cg t=true)(pu:Cg u=true){f:Nat}{L:Int}(hL:Con 19 [.float .f64 f] (.int .i64 L)){T1:HOut->GV->Prop}
  (h:Dd 21 (cvG G t u L) [.gp (G.length+3) 0,.gp (G.length+4) 0,.gp (G.length+5) 0,.int .i64 0,.int .i64 L] T1)
  (Cc:∀o G3,T1 o G3->G3[G.length]?=some [.bool false]/\G3[G.length+1]?=some [.int .i64 0] /\
   ((∃c,o=.ret (.bool c)/\T (.ret (.tup [.bool c,.int .i64 0])) ((G3.set G.length [.bool c]).set (G.length+1) [.int .i64 0]))\/(o=.pan (.ife 48)/\T (.ret (.tup [.bool false,.int .i64 6])) ((G3.set G.length [.bool false]).set (G.length+1) [.int .i64 6])))) :
  Dd 9 G [.agg true (tv t),.agg true (tv u),.float .f64 f] T:=by
 refine Aec mixed Tryz.func9 tr9 [(6,.gp G.length 0),(7,.gp (G.length+1) 0)] rfl (by simp) (by simp) Ba2 ?_;have c1:=Anh t ht;rw[show Gg t 2=true from pt] at c1;have c2:=Anh u hu;rw[show Gg u 2=true from pu] at c2;have hn:=A8v (G++[[SV.bool false]]++[[SV.int .i64 0]]) L;have l1:=Zx (G++[[SV.bool false]]++[[SV.int .i64 0]]++[[.undef],Bx 0 L 0 0 (G.length+2)]) t [];have l2:=Zx (G++[[SV.bool false]]++[[SV.int .i64 0]]++[[.undef],Bx 0 L 0 0 (G.length+2)]++[thR ⟨t,[],false,none,none⟩]) u [];unfold cvG at h;rw[Pi] at l1 l2;simp only[q_jr,q_jk,List.length_nil,q_ks,Nat.reduceAdd] at hn l1 l2;generalize thR ⟨t,[],false,none,none⟩=th1 at *
 generalize thR ⟨u,[],false,none,none⟩=th2 at *
 repeat' first
 |simp only[go_sem,seval]
 |refine Af c1 ?_
 |refine Af c2 ?_
 refine⟨_,rfl,by simp,by simp[noW],_,.trans (.promo _ 3 _ _ _ rfl rfl rfl rfl rfl rfl (by simp) (by simp) (by simp[Rl,Jr,St.put]) (fun q ob' h1 h2 h3 h4=>?_)) (.promo _ 4 _ _ _ rfl rfl rfl rfl rfl rfl (by simp) (by simp) (by simp[Rl,Jr,St.put,Dk]) (fun q ob' h1 h2 h3 h4=>?_)),by simp[St.put,Dk],?_⟩
 ·match q,h1 with
  |0,h1=>cases h1;cases h3
  |1,h1=>cases h1;cases h4
  |2,h1=>cases h1;cases h4
  |3,_=>exact absurd rfl h2
  |4,h1=>cases h1;cases h4
  |q+5,h1=>simp[St.put] at h1
 ·match q,h1 with
  |0,h1=>cases h1;cases h3
  |1,h1=>cases h1;cases h4
  |2,h1=>cases h1;cases h4
  |3,h1=>cases h1;cases h3
  |4,_=>exact absurd rfl h2
  |q+5,h1=>simp[St.put] at h1
 have p1:Dk 4 (G.length+1) (Dk 3 G.length (.ref 3 0 0 0))=.gp G.length 0:=rfl;have p2:Dk 4 (G.length+1) (Dk 3 G.length (.ref 4 0 0 0))=.gp (G.length+1) 0:=rfl;have p3:Dk 4 (G.length+1) (Dk 3 G.length (.ref 1 0 0 0))=.ref 1 0 0 0:=rfl;have p4:Dk 4 (G.length+1) (Dk 3 G.length (.ref 2 0 0 0))=.ref 2 0 0 0:=rfl;have p5:Dk 4 (G.length+1) (Dk 3 G.length (.float .f64 f))=.float .f64 f:=rfl
 repeat' first
 |simp only[go_sem,seval,Nd,q_jr,p1,p2,p3,p4,p5]
 |refine Af hL ?_
 |refine Ai hn ?_
 |refine Ai l1 ?_
 |refine Ai l2 ?_
 refine Ha h trivial (fun r G3 h3=>?_) (fun u G3 h3=>?_)
 ·obtain⟨r2,r3,⟨c,e,hT⟩|⟨e,_⟩⟩:=Cc _ _ h3;rotate_left
  ·cases e
  cases e;have hl1:G.length≠G.length+1:=by omega
  have r3':(G3.set G.length [SV.bool c])[G.length+1]?=some [.int .i64 0]:=(q_jc hl1).trans r3;simp only[go_sem,seval,Nd,r2,r3',p1,p2];unfold z5;refine⟨by simp,_,_,rfl,Ayh _ _,fun sl Fb=>?_⟩;refine Afr (Fb (6,.gp G.length 0) (by simp)) (Fb (7,.gp (G.length+1) 0) (by simp)) ⟨_,rfl⟩ (.inr ⟨_,rfl⟩) ?_ (Ex r3') hT;rw[q_jc (Ne.symm hl1)];exact Ex r2
 ·obtain⟨r2,r3,⟨c,e,_⟩|⟨e,hT⟩⟩:=Cc _ _ h3
  ·cases e
  ·cases e;have hl1:G.length≠G.length+1:=by omega
   refine .inl ⟨_,Ayg r2 r3 hl1,fun sl Fb=>Afr (Fb (6,.gp G.length 0) (by simp)) (Fb (7,.gp (G.length+1) 0) (by simp)) ⟨_,rfl⟩ (.inr ⟨_,rfl⟩) ?_ (Ex ((q_jc hl1).trans r3)) hT⟩;rw[q_jc (Ne.symm hl1)];exact Ex r2
end
def CvP(B:BT)(t u:Tm)(L:Nat):HOut->GV->Prop:=fun o _=>
 (∃b,o=.ret (.tup [.bool b,.int .i64 0])/\Eqv B 0 true (lv 0 t) (lv 0 u) b)\/(o=.ret (.tup [.bool false,.int .i64 6])/\∀N r N' s,NR B 0 (lv 0 t) N r->NR B 0 (lv 0 u) N' s->L<N+N'\/8000000<tsz r+tsz s)
def A2a{S:SyT}(Lb:Lib S)(hB:Bz S.B){t u:Tm}(ht:TOk t)(hu:TOk u)(pt:Cg t=true)(pu:Cg u=true){C:Nat}(st:Sf C t)(su:Sf C u)(hC:C<=1048576)(dt:dpt t<=100000000)(du:dpt u<=100000000){f L:Nat}(hL:Con 19 [.float .f64 f] (.int .i64 L))(hLb:L<=1000000000)(G:GV) :
  Dd 9 G [.agg true (tv t),.agg true (tv u),.float .f64 f] (CvP S.B t u L):=by
 have hc:cap=1099511627776:=rfl;obtain⟨K,hK⟩:∃K,K=G++[[SV.bool false]]++[[SV.int .i64 0]]:=⟨_,rfl⟩
 have hKl:K.length=G.length+2:=by rw[hK];simp
 have hI:=Ba3 (S:=S) K t L hLb;have i2:=hI.pushCl (t:=u) (e:=[]) (es:=[]) (K:=0) ⟨rfl,fun q i hq=>by cases hq⟩ (Nat.zero_le _);have Hu:cvG G t u L=K++[[.undef],Bx 0 L 0 0 K.length,thR ⟨t,[],false,none,none⟩]++[thR ⟨u,[],false,none,none⟩]:=by
  unfold cvG;rw[hKl,<-hK];simp
 rw[<-Hu] at i2;have k1:K[G.length]?=some [.bool false]:=by rw[hK];simp
 have k2:K[G.length+1]?=some [.int .i64 0]:=by rw[hK];simp
 have Og:(K.map (fun r=>some (Ge.kp r))++[none,none,some (.cl t [])]++[some (.cl u [])])[G.length+4]?=some (some (.cl t [])):=by
  rw[q_ju,q_jj (by simp;omega)];simp[hKl,show G.length+4-(G.length+2)=2 by omega]
 have Rd:(K.map (fun r=>some (Ge.kp r))++[none,none,some (.cl t [])]++[some (.cl u [])])[G.length+5]?=some (some (.cl u [])):=by
  rw[q_ju,q_jj (by simp;omega)];simp[hKl,show G.length+5-(G.length+2)=3 by omega]
 have oa:(Ge.cl t []).Ok 0:=⟨fun u hu=>(by cases hu),⟨C,st,by omega⟩,by simp;omega⟩
 have ob:(Ge.cl u []).Ok 0:=⟨fun u hu=>(by cases hu),⟨C,su,by omega⟩,by simp;omega⟩
 have et:(Ge.cl t []).den 0=lv 0 t:=(lv_0 t).symm;have eu:(Ge.cl u []).den 0=lv 0 u:=(lv_0 u).symm;have hq:=Bc4 Lb hB i2 rfl hLb Og oa Rd ob et eu st su hC;rw[et,eu,show K.length+1=G.length+3 by omega] at hq;refine A2b ht hu pt pu hL hq (fun o G3 h3=>?_);have kp:∀{Γ':Gh} {M':Mc} {i:Nat} {r:List SV},Gx (K.map (fun r=>some (Ge.kp r))++[none,none,some (.cl t [])]++[some (.cl u [])]) Γ'->RInv S (G.length+3) K.length G3 Γ' M'->K[i]?=some r->G3[i]?=some r:=fun x hi h=>by
  rw[q_ju] at x;exact kept x hi h
 cases h3 with
 |ret x hi he=>exact⟨kp x hi k1,kp x hi k2,.inl ⟨_,rfl,.inl ⟨_,rfl,he⟩⟩⟩
 |out x hi h=>exact⟨kp x hi k1,kp x hi k2,.inr ⟨rfl,.inr ⟨rfl,h⟩⟩⟩
def Bb3(b:Bool):Le (.tup [.agg true [.int .i64 0,.int .i64 0,.int .i64 0,.int .i64 0,.nils],.bool b]) (.tup [.agg true (tv zt),.bool b]):=by
 refine .tup _ _ (.cons _ _ _ _ ?_ (.cons _ _ _ _ (.cell _ _ (.refl _)) .nil));rw[zt,As];exact .agg _ _ (.cons _ _ _ _ (.refl _) (.cons _ _ _ _ (.refl _) (.cons _ _ _ _ (.refl _) (.cons _ _ _ _ (.refl _) (.cons _ _ _ _ (.nils 5) .nil)))))
def Bdm(t:Tm)(b:Bool):NoG (.tup [.agg true (tv t),.bool b]):=by
 refine .tup _ (fun x hx=>?_);simp only[q_kb,q_kc,or_false] at hx;rcases hx with rfl|rfl
 ·exact Qd t true
 ·exact .bool _
section
variable{B:BT}
def Ahd{t:Tm}{z p:Bool}(hz:Con 27 [.agg true (tv t),.int .i64 100] (.bool z))(hp:z=false->Con 28 [.agg true (tv t)] (.bool p))(h:z=true\/p=false\/∃f:Int,Con 29 [.agg true (tv t)] (.int .i64 f)/\1048576<=f) :
  Con 16 [.agg true (tv t)] (.tup [.agg true (tv zt),.bool false]):=by
 refine (Au (r:=.tup [.agg true [.int .i64 0,.int .i64 0,.int .i64 0,.int .i64 0,.nils],.bool false]) mixed Tryz.func16 tr16 ?_).weaken (Bb3 false);cases z with
 |true=>
  simp only[go_sem,seval];refine Af hz ?_;simp only[go_sem,seval]
 |false=>
  simp only[go_sem,seval];refine Af hz ?_;simp only[go_sem,seval];refine Af (hp rfl) ?_;cases p with
  |false=>simp only[go_sem,seval]
  |true=>
   obtain⟨f,h1,h2⟩:∃f:Int,Con 29 [.agg true (tv t)] (.int .i64 f)/\1048576<=f:=by
    rcases h with h|h|h
    ·cases h
    ·cases h
    ·exact h
   simp only[go_sem,seval];refine Af h1 ?_;simp only[go_sem,seval,q_jn (show f >= 1048576 from h2)]
def A3m{t x:Tm}{n:Nat}{o z2:Bool}{f:Int}(hz:Con 27 [.agg true (tv t),.int .i64 100] (.bool false))(hp:Con 28 [.agg true (tv t)] (.bool true))(hf:Con 29 [.agg true (tv t)] (.int .i64 f))(Tz:f<1048576)
  (hn:CN t 0 n o x) (Du:Con 27 [.agg true (tv x),.int .i64 4000] (.bool z2)):Con 16 [.agg true (tv t)] (.tup [.agg true (tv x),.bool (!o && !z2)]):=by
 have h:=hn 0 [[.int .i64 0,.bool false]] rfl;refine Lt mixed Tryz.func16 tr16 (Bdj t) (Bdm x _) ?_
 repeat' first
 |simp only[go_sem,seval,q_je (show ¬f >= 1048576 by omega)]
 |refine Af hz ?_
 |refine Af hp ?_
 |refine Af hf ?_
 refine Ai h ?_;cases o with
 |true=>simp only[go_sem,seval,Ek]
 |false=>
  simp only[go_sem,seval,Ek];refine Af Du ?_;simp only[go_sem,seval]
structure En(B:BT)(t x:Tm)(n:Nat):Prop where
 pt:PT 1048576 100 t
 way:PNx B (.inl t) 0 false n false (.inl x)
 sz:tsz x<=4000
 n4:n<=4000
 cn:CN t 0 n false x
def Ph(L:Ve B){t:Tm}(ht:TOk t):∃x n b,Con 16 [.agg true (tv t)] (.tup [.agg true (tv x),.bool b])/\TOk x/\(b=true->En B t x n):=by
 obtain⟨z,hz,hzi⟩:=Am5 ht (m:=100) (by decide) (by decide);have hp:=w8 t ht;have no:Con 16 [.agg true (tv t)] (.tup [.agg true (tv zt),.bool false])->∃x n b,Con 16 [.agg true (tv t)] (.tup [.agg true (tv x),.bool b])/\TOk x/\(b=true->En B t x n):=fun h=>⟨zt,0,false,h,Bja,fun h=>by cases h⟩
 cases Ul:z with
 |true=>subst Ul;exact no (Ahd (p:=Cg t) hz (fun h=>by cases h) (.inl rfl))
 |false=>
  subst Ul;cases In:Cg t with
  |false=>rw[In] at hp;exact no (Ahd hz (fun _=>hp) (.inr (.inl rfl)))
  |true=>
   rw[In] at hp;have hf:=A0s t ht In
   by_cases Tz:Ie t<1048576
   ·have hs:=hzi rfl;have hpt:PT 1048576 100 t:=⟨In,Bhy ht In (by omega),by omega⟩
    have hms:ms 0=16004000:=by decide
    obtain⟨n,o,x,h1,h2,h3,h4,h5⟩:=Asg L (ms 0+101) 0 t 1048576 (by omega) (by omega) (hpt.mono (by omega)) (by omega);obtain⟨z2,Du,hzi2⟩:=Am5 h3 (m:=4000) (by decide) (by decide);refine⟨x,n,_,A3m hz hp hf Tz h2 Du,h3,fun hb=>?_⟩;cases o with
    |true=>cases hb
    |false=>
     cases z2 with
     |true=>cases hb
     |false=>exact⟨hpt,h1,by have:=hzi2 rfl;omega,h5 rfl,h2⟩
   ·exact no (Ahd hz (fun _=>hp) (.inr (.inr ⟨_,hf,by omega⟩)))
end
def Amy{a xa c xc:Tm}{b b':Bool}(ha:Con 16 [.agg true (tv a)] (.tup [.agg true (tv xa),.bool b]))(hc:Con 16 [.agg true (tv c)] (.tup [.agg true (tv xc),.bool b'])):Con 8 [.dsl 5 [tv a,tv c]] (.bool (b && b')):=by
 refine Au mixed Tryz.func8 tr8 ?_;cases b<;>cases b' <;>
 repeat' first
  |simp (config:={ maxSteps:=2000000 }) only[go_sem,seval]
  |refine Af (ha) ?_
  |refine Af (hc) ?_
  |refine Bd ?_
  |refine Cv 6 ?_
  |rfl
end Go.Proofs.YtgdkddjdhijfnaaGreatDoor.Abs
namespace Go.Proofs.YtgdkddjdhijfnaaGreatDoor.Flt
def rung(x:Nat):Nat:=x % 9223372036854775808
def isNeg(x:Nat):Bool:=x / 9223372036854775808 % 2==1
def skey(x:Nat):Int:=if isNeg x then -(rung x:Int) else (rung x:Int)
def nanB(x:Nat):Bool:=decide (9218868437227405312<rung x)
def ord(x y:Nat):Option Ordering:=FloatKind.f64.format.order x y
def V(r:Nat):Nat:=if r<4503599627370496 then r else (4503599627370496+r % 4503599627370496)*2 ^ (r / 4503599627370496-1)
def Aln(r:Nat):V r<V (r+1):=by
 unfold V
 by_cases h:r+1<4503599627370496
 ·rw[if_pos (by omega),if_pos h];omega
 ·by_cases h2:r<4503599627370496
  ·rw[if_pos h2,if_neg h];have:r=4503599627370495:=by omega
   subst this;decide
  ·rw[if_neg h2,if_neg h]
   by_cases h3:r % 4503599627370496=4503599627370495
   ·have e1:(r+1) % 4503599627370496=0:=by omega
    have e2:(r+1) / 4503599627370496-1=(r / 4503599627370496-1)+1:=by omega
    rw[e1,e2,h3,Nat.pow_succ];have:0<2 ^ (r / 4503599627370496-1):=Nat.two_pow_pos _;omega
   ·have e1:(r+1) % 4503599627370496=r % 4503599627370496+1:=by omega
    have e2:(r+1) / 4503599627370496=r / 4503599627370496:=by omega
    rw[e1,e2];exact Nat.mul_lt_mul_of_pos_right (by omega) (Nat.two_pow_pos _)
def V_lt{r s:Nat}(h:r<s):V r<V s:=by
 induction s with
 |zero=>omega
 |succ s ih=>
  rcases Nat.lt_or_ge r s with h1|h1
  ·exact Nat.lt_trans (ih h1) (Aln s)
  ·have:r=s:=by omega
   subst this;exact Aln r
def Ay0(a b:Int)(r s:Nat)(x y:Int)
  (hx:(a=V r/\x=r)\/(a=-(V r:Int)/\x=-(r:Int))) (hy:(b=V s/\y=s)\/(b=-(V s:Int)/\y=-(s:Int))):compare a b=compare x y:=by
 have V0:V 0=0:=by decide
 have pos:∀t:Nat,0<t->0<V t:=fun t ht=>by have:=V_lt ht;omega
 have hr:=pos r;have hs:=pos s;have hrs:r<s->V r<V s:=V_lt;have hsr:s<r->V s<V r:=V_lt;have e0:r=0->V r=0:=by rintro rfl;exact V0
 have f0:s=0->V s=0:=by rintro rfl;exact V0
 have ee:r=s->V r=V s:=by rintro rfl;rfl
 generalize V r=p at *
 generalize V s=q at *
 have key:(a<b↔x<y)/\(a=b↔x=y):=by
  rcases hx with⟨h1,h2⟩|⟨h1,h2⟩<;>rcases hy with⟨h3,h4⟩|⟨h3,h4⟩<;>constructor<;>omega
 simp only[compare,compareOfLessAndEq,key.1,key.2]
def E(r:Nat):Nat:=if r<4503599627370496 then 0 else r / 4503599627370496-1
def M(r:Nat):Nat:=if r<4503599627370496 then r else 4503599627370496+r % 4503599627370496
def V_eq(r:Nat):V r=M r*2 ^ E r:=by
 unfold V M E;split<;>simp
def Abz(x:Nat)(h:rung x<9218868437227405312):FloatKind.f64.format.read x=.number (isNeg x) (M (rung x)) (-1074+(E (rung x):Int)):=by
 show Ieee.Format.read Ieee.double x=_;unfold Ieee.Format.read;have e1:Ieee.double.signWeight=9223372036854775808:=by decide
 have e2:Ieee.double.binade=4503599627370496:=by decide
 have e3:Ieee.double.infRung=9218868437227405312:=by decide
 have e4:Ieee.double.leastPlace=-1074:=by decide
 simp only[e1,e2,e3,e4];unfold rung at h;unfold M E rung isNeg
 by_cases h1:x % 9223372036854775808<4503599627370496
 ·simp[h1]
 ·simp[h1,h]
def Afo(x:Nat)(h:rung x=9218868437227405312):FloatKind.f64.format.read x=.infinity (isNeg x):=by
 show Ieee.Format.read Ieee.double x=_;unfold Ieee.Format.read;have e1:Ieee.double.signWeight=9223372036854775808:=by decide
 have e2:Ieee.double.binade=4503599627370496:=by decide
 have e3:Ieee.double.infRung=9218868437227405312:=by decide
 simp only[e1,e2,e3];unfold rung at h;rw[h];simp[isNeg]
def Atd(x:Nat)(h:9218868437227405312<rung x):FloatKind.f64.format.read x=.nan (isNeg x) (rung x-9218868437227405312):=by
 show Ieee.Format.read Ieee.double x=_;unfold Ieee.Format.read;have e1:Ieee.double.signWeight=9223372036854775808:=by decide
 have e2:Ieee.double.binade=4503599627370496:=by decide
 have e3:Ieee.double.infRung=9218868437227405312:=by decide
 simp only[e1,e2,e3];unfold rung at h |-;rw[if_neg (by omega),if_neg (by omega),if_neg (by omega)];rfl
def cmp_lt{a b:Int}(h:a<b):compare a b=.lt:=by simp[compare,compareOfLessAndEq,h]
def cmp_gt{a b:Int}(h:b<a):compare a b=.gt:=by
 have h1:¬a<b:=by omega
 have h2:¬a=b:=by omega
 simp[compare,compareOfLessAndEq,h1,h2]
def cmp_eq{a b:Int}(h:a=b):compare a b=.eq:=by simp[compare,compareOfLessAndEq,h]
def Ay1(a b:Int)(k:Nat)(hk:0<k):compare (a*k) (b*k)=compare a b:=by
 have hk':(0:Int)<k:=by omega
 have h1:a*k<b*k↔a<b:=⟨fun h=>Int.lt_of_mul_lt_mul_right h (by omega),fun h=>Int.mul_lt_mul_of_pos_right h hk'⟩
 have h2:a*k=b*k↔a=b:=⟨fun h=>Int.eq_of_mul_eq_mul_right (by omega) h,fun h=>by rw[h]⟩
 simp only[compare,compareOfLessAndEq,h1,h2]
def Atv(s:Bool)(m u k:Nat):Ieee.signed s m u*((2 ^ k:Nat):Int)=Ieee.signed s m (u+k):=by
 unfold Ieee.signed;have:((m <<< u:Nat):Int)*((2 ^ k:Nat):Int)=((m <<< (u+k):Nat):Int):=by
  rw[Nat.shiftLeft_eq,Nat.shiftLeft_eq,Nat.pow_add,<-Nat.mul_assoc];exact (Int.natCast_mul _ _).symm
 cases s<;>simp only[Bool.false_eq_true,if_false,if_true]
 ·exact this
 ·rw[Int.neg_mul,this]
def Atu(x:Nat):Ieee.signed (isNeg x) (M (rung x)) (E (rung x))=if isNeg x then -(V (rung x):Int) else (V (rung x):Int):=by
 unfold Ieee.signed;rw[Nat.shiftLeft_eq,<-V_eq]
def ord_skey(x y:Nat)(hx:nanB x=false)(hy:nanB y=false):ord x y=some (compare (skey x) (skey y)):=by
 have Bu:rung x<=9218868437227405312:=by simpa [nanB] using hx
 have hy':rung y<=9218868437227405312:=by simpa [nanB] using hy
 unfold ord Ieee.Format.order;rcases Nat.lt_or_ge (rung x) 9218868437227405312 with h1|h1<;>rcases Nat.lt_or_ge (rung y) 9218868437227405312 with h2|h2
 ·rw[Abz x h1,Abz y h2];simp only[Ieee.Datum.order];congr 1;have hb:∀e f:Nat,(-1074+(e:Int)-min (-1074+(e:Int)) (-1074+(f:Int))).toNat+min e f=e:=by intro e f;omega
  have Dg:∀e f:Nat,(-1074+(f:Int)-min (-1074+(e:Int)) (-1074+(f:Int))).toNat+min e f=f:=by intro e f;omega
  rw[<-Ay1 _ _ (2 ^ min (E (rung x)) (E (rung y))) (Nat.two_pow_pos _),Atv,Atv,hb,Dg,Atu,Atu];refine Ay0 _ _ (rung x) (rung y) _ _ ?_ ?_
  ·unfold skey;cases isNeg x<;>simp
  ·unfold skey;cases isNeg y<;>simp
 ·have Fj:rung y=9218868437227405312:=by omega
  rw[Abz x h1,Afo y Fj];simp only[Ieee.Datum.order];congr 1;unfold skey;rw[Fj];cases isNeg y<;>cases isNeg x<;>first|exact (cmp_lt (by simp;omega)).symm|exact (cmp_gt (by simp;omega)).symm
 ·have Od:rung x=9218868437227405312:=by omega
  rw[Abz y h2,Afo x Od];simp only[Ieee.Datum.order];congr 1;unfold skey;rw[Od];cases isNeg x<;>cases isNeg y<;>first|exact (cmp_lt (by simp;omega)).symm|exact (cmp_gt (by simp;omega)).symm
 ·have Od:rung x=9218868437227405312:=by omega
  have Fj:rung y=9218868437227405312:=by omega
  rw[Afo x Od,Afo y Fj];simp only[Ieee.Datum.order];congr 1;unfold skey;rw[Od,Fj];cases isNeg x<;>cases isNeg y<;>decide
def ord_nan_left(x y:Nat)(hx:nanB x=true):ord x y=none:=by
 have Bu:9218868437227405312<rung x:=by simpa [nanB] using hx
 unfold ord Ieee.Format.order;rw[Atd x Bu];rfl
def ord_nan_right(x y:Nat)(hy:nanB y=true):ord x y=none:=by
 have hy':9218868437227405312<rung y:=by simpa [nanB] using hy
 unfold ord Ieee.Format.order;rw[Atd y hy'];cases FloatKind.f64.format.read x<;>rfl
end Go.Proofs.YtgdkddjdhijfnaaGreatDoor.Flt
namespace Go.Proofs.YtgdkddjdhijfnaaGreatDoor.Flt
open Go Go.RowKit
def rg(m:Nat):Nat:=((m.log2:Int)-52+1074).toNat*4503599627370496+Ieee.Toward.even.cut false (m <<< (0-((m.log2:Int)-52)).toNat) ((m.log2:Int)-52-0).toNat
def R(m:Nat):Nat:=if m=0 then 0 else min (rg m) 9218868437227405312
def A2e(s t:Bool)(n d:Nat):Ieee.Toward.even.cut s n d=Ieee.Toward.even.cut t n d:=rfl
def Bc8(neg:Bool)(m:Nat):Ieee.double.nearest neg m 0=Ieee.double.word neg (R m):=by
 unfold Ieee.Format.nearest R
 by_cases h:m=0
 ·rw[if_pos h,if_pos h]
 ·rw[if_neg h,if_neg h];have e2:Ieee.double.binade=4503599627370496:=by decide
  have e3:Ieee.double.infRung=9218868437227405312:=by decide
  have e4:Ieee.double.leastPlace=-1074:=by decide
  have e5:(Ieee.double.fractionBits:Int)=52:=by decide
  simp only[e2,e3,e4,e5];have el:max ((0:Int)+(m.log2:Int)-52) (-1074)=(m.log2:Int)-52:=by omega
  rw[el];unfold rg;rw[show (m.log2:Int)-52 - -1074=(m.log2:Int)-52+1074 by omega,A2e neg false]
def A2h(n:Nat):Ieee.Toward.even.cut false n 0=n:=by
 unfold Ieee.Toward.cut;simp[Nat.mod_one]
def R_le(m:Nat):R m<=9218868437227405312:=by
 unfold R;split<;>omega
def Alc(neg:Bool){r:Nat}(h:r<=9218868437227405312):rung (Ieee.double.word neg r)=r/\isNeg (Ieee.double.word neg r)=neg:=by
 have e1:Ieee.double.signWeight=9223372036854775808:=by decide
 unfold Ieee.Format.word rung isNeg;rw[e1];cases neg
 ·simp only[Bool.false_eq_true,if_false];refine⟨by omega,?_⟩;have:r / 9223372036854775808=0:=by omega
  rw[this];rfl
 ·simp only[if_true];refine⟨by omega,?_⟩;have:(9223372036854775808+r) / 9223372036854775808=1:=by omega
  rw[this];rfl
def Bkz(neg:Bool){r:Nat}(h:r<=9218868437227405312):nanB (Ieee.double.word neg r)=false:=by
 unfold nanB;rw[(Alc neg h).1];simpa using h
def Ar7(n:Int):floatOfInt .f64 n=Ieee.double.word (n<0) (R n.natAbs):=Bc8 _ _
def ofInt_nan(n:Int):nanB (floatOfInt .f64 n)=false:=by rw[Ar7];exact Bkz _ (R_le _)
def ofInt_key(n:Int):skey (floatOfInt .f64 n)=if n<0 then -(R n.natAbs:Int) else (R n.natAbs:Int):=by
 rw[Ar7];unfold skey;rw[(Alc _ (R_le _)).1,(Alc _ (R_le _)).2]
 by_cases h:n<0<;>simp[h]
end Go.Proofs.YtgdkddjdhijfnaaGreatDoor.Flt
namespace Go.Proofs.YtgdkddjdhijfnaaGreatDoor.Flt
def cc:Nat:=1074
def U:Nat:=2 ^ cc
def U_eq{x:Nat}(h:x=1074):2 ^ x=U:=by
 have:x=cc:=h;rw[this,U]
def U_pos:0<U:=Nat.two_pow_pos cc
def A2f(s:Bool)(n d:Nat):Ieee.Toward.zero.cut s n d=n / 2 ^ d:=by
 unfold Ieee.Toward.cut;simp only[Bool.toNat_false,Nat.add_zero,Nat.one_shiftLeft];rcases Nat.le_total d (n.log2+2) with h|h
 ·rw[Nat.min_eq_left h]
 ·rw[Nat.min_eq_right h];have h1:n<2 ^ (n.log2+2):=by
   rcases Nat.eq_zero_or_pos n with rfl|hn
   ·exact Nat.two_pow_pos _
   ·have:=Nat.lt_log2_self (n:=n);rw[Nat.pow_succ];omega
  have h2:n<2 ^ d:=Nat.lt_of_lt_of_le h1 (Nat.pow_le_pow_right (by decide) h);rw[Nat.div_eq_of_lt h1,Nat.div_eq_of_lt h2]
def toInt_pos(b:Nat)(h:rung b<9218868437227405312)(hn:isNeg b=false):(FloatKind.f64.decode b).toInt .zero=some ((V (rung b) / U:Nat):Int):=by
 rw[show FloatKind.f64.decode b=_ from Abz b h];unfold Ieee.Datum.toInt Ieee.Datum.integral;simp only[hn,A2f];unfold Ieee.signed;simp only[Bool.false_eq_true,if_false,Nat.shiftLeft_zero];congr 2;rw[V_eq,Nat.shiftLeft_eq];generalize M (rung b)=m;generalize E (rung b)=e;rcases Nat.le_total 1074 e with h1|h1
 ·rw[show (-(-1074+(e:Int))).toNat=0 by omega,show (-1074+(e:Int)).toNat=e-1074 by omega,Nat.pow_zero,Nat.div_one];have:2 ^ e=2 ^ (e-1074)*U:=by rw[<-U_eq (x:=cc) rfl,<-Nat.pow_add];congr 1;have:cc=1074:=rfl;omega
  rw[this,<-Nat.mul_assoc,Nat.mul_div_cancel _ U_pos]
 ·rw[show (-(-1074+(e:Int))).toNat=1074-e by omega,show (-1074+(e:Int)).toNat=0 by omega,Nat.pow_zero,Nat.mul_one];have:U=2 ^ (1074-e)*2 ^ e:=by rw[<-Nat.pow_add,U_eq (by omega)]
  rw[this,Nat.mul_div_mul_right _ _ (Nat.two_pow_pos e)]
def V_R(n:Nat)(h0:n≠0)(hn:n<9007199254740992):R n<9218868437227405312/\V (R n)=n*U:=by
 have hl:n.log2<=52:=by
  have:=(Nat.log2_lt h0 (k:=53)).2 (by omega);omega
 have h1:2 ^ n.log2<=n:=Nat.log2_self_le h0;have h2:n<2 ^ (n.log2+1):=Nat.lt_log2_self;have e52:(2:Nat) ^ 52=2 ^ n.log2*2 ^ (52-n.log2):=by rw[<-Nat.pow_add];congr 1;omega
 have hp:=Nat.two_pow_pos (52-n.log2);have lo:4503599627370496<=n*2 ^ (52-n.log2):=by
  have:=Nat.mul_le_mul_right (2 ^ (52-n.log2)) h1;rw[<-e52] at this;exact this
 have hi:n*2 ^ (52-n.log2)<9007199254740992:=by
  have:=Nat.mul_lt_mul_of_pos_right h2 hp;rw[Nat.pow_succ,Nat.mul_right_comm,<-e52] at this;exact this
 have hR:rg n=(n.log2+1022)*4503599627370496+n*2 ^ (52-n.log2):=by
  unfold rg;rw[show ((n.log2:Int)-52-0).toNat=0 by omega,A2h,Nat.shiftLeft_eq,show (0-((n.log2:Int)-52)).toNat=52-n.log2 by omega,show ((n.log2:Int)-52+1074).toNat=n.log2+1022 by omega]
 have hRR:R n=rg n:=by
  unfold R;rw[if_neg h0,hR];omega
 rw[hRR,hR];refine⟨by omega,?_⟩;have hd:((n.log2+1022)*4503599627370496+n*2 ^ (52-n.log2)) / 4503599627370496=n.log2+1023:=by omega
 have hm:((n.log2+1022)*4503599627370496+n*2 ^ (52-n.log2)) % 4503599627370496=n*2 ^ (52-n.log2)-4503599627370496:=by omega
 unfold V;rw[if_neg (by omega),hd,hm,show 4503599627370496+(n*2 ^ (52-n.log2)-4503599627370496)=n*2 ^ (52-n.log2) by omega,Nat.mul_assoc,<-Nat.pow_add,U_eq (by omega)]
def V_le{r s:Nat}(h:r<=s):V r<=V s:=by
 rcases Nat.lt_or_ge r s with h1|h1
 ·exact Nat.le_of_lt (V_lt h1)
 ·rw[show r=s by omega];exact Nat.le_refl _
def le_cut{b n:Nat}(hb:nanB b=false)(h0:n≠0)(hn:n<9007199254740992)(h:skey (floatOfInt .f64 n)<=skey b):isNeg b=false/\n<=V (rung b) / U:=by
 obtain⟨h1,h2⟩:=V_R n h0 hn;have hk:=ofInt_key (n:Int);rw[if_neg (by omega),Int.natAbs_natCast] at hk;rw[hk] at h;have Cy:0<R n:=by
  rcases Nat.eq_zero_or_pos (R n) with e|e
  ·rw[e] at h2;have:0<n*U:=Nat.mul_pos (by omega) U_pos;have h3:V 0=0:=by decide
   omega
  ·exact e
 unfold skey at h;cases Aa0:isNeg b with
 |true=>rw[Aa0,if_pos rfl] at h;omega
 |false=>
  rw[Aa0,if_neg (by decide)] at h;refine⟨rfl,?_⟩;have hle:V (R n)<=V (rung b):=V_le (by omega);rw[h2] at hle;exact (Nat.le_div_iff_mul_le U_pos).2 hle
def cut_lt{b n:Nat}(h0:n≠0)(hn:n<9007199254740992)(hp:isNeg b=false)(h:skey b<skey (floatOfInt .f64 n)):rung b<9218868437227405312/\V (rung b) / U<n:=by
 obtain⟨h1,h2⟩:=V_R n h0 hn;have hk:=ofInt_key (n:Int);rw[if_neg (by omega),Int.natAbs_natCast] at hk;rw[hk] at h;unfold skey at h;rw[hp,if_neg (by decide)] at h;have Ag:=V_lt (show rung b<R n by omega);rw[h2] at Ag;exact⟨by omega,(Nat.div_lt_iff_lt_mul U_pos).2 Ag⟩
end Go.Proofs.YtgdkddjdhijfnaaGreatDoor.Flt
namespace Go.Proofs.YtgdkddjdhijfnaaGreatDoor.Nrm
open Go Go.RowKit
def within (n:Int)(m:Nat):Bool:=FloatKind.f64.format.order (floatOfInt .f64 n) m==some Ordering.lt || FloatKind.f64.format.order (floatOfInt .f64 n) m==some Ordering.eq
def A1z(b n:Nat)(h:(FloatKind.f64.decode b).toInt .zero=some (n:Int))(hn:n<9223372036854775808)(w:World):(convert 25 3 (.float .f64 b)).run Tryz.prog w=.ok (.int .i64 n) w:=by
 have hk:(convert 25 3 (.float .f64 b)).run Tryz.prog w=(Conv.floatToInt .f64 b .i64).run Tryz.prog w:=by kernel_rfl
 rw[hk];unfold Conv.floatToInt;rw[h];have h1:IntKind.i64.min<=(n:Int)/\(n:Int)<=IntKind.i64.max:=by
  have e1:IntKind.i64.min=-9223372036854775808:=by decide
  have e2:IntKind.i64.max=9223372036854775807:=by decide
  rw[e1,e2];omega
 simp only[h1,and_self,if_true];rfl
def big:Nat:=4741671816366391296
def Bce(b n:Nat)(h0:Flt.nanB b=false)(h1:¬Flt.skey b<=0)(h2:Flt.skey b<Flt.skey big)(h:(FloatKind.f64.decode b).toInt .zero=some (n:Int))(hn:n<9223372036854775808)(w:World) :
  Calls Tryz.prog 19 #[.float .f64 b] w fun e w'=>e=.returned (.int .i64 n)/\w'=w:=by
 have hc:=A1z b n h hn;have o1:FloatKind.f64.format.order b b=some .eq:=by rw[show FloatKind.f64.format.order b b=Flt.ord b b from rfl,Flt.ord_skey b b h0 h0,Flt.cmp_eq rfl]
 have o2:FloatKind.f64.format.order b 0=some .gt:=by rw[show FloatKind.f64.format.order b 0=Flt.ord b 0 from rfl,Flt.ord_skey b 0 h0 (by decide),Flt.cmp_gt (by rw[show Flt.skey 0=0 by decide];omega)]
 have o3:FloatKind.f64.format.order b 4741671816366391296=some .lt:=by rw[show FloatKind.f64.format.order b 4741671816366391296=Flt.ord b big from rfl,Flt.ord_skey b _ h0 (by decide),Flt.cmp_lt h2]
 go_enter Tryz.func19,Tryz.ntmps19
 go_wp2
 all_goals
  go_ret
  exact⟨rfl,rfl⟩
def Bcc(b:Nat)(h0:Flt.nanB b=true)(w:World):Calls Tryz.prog 19 #[.float .f64 b] w fun e w'=>e=.returned (.int .i64 (0:Nat))/\w'=w:=by
 have o1:FloatKind.f64.format.order b b=none:=by rw[show FloatKind.f64.format.order b b=Flt.ord b b from rfl,Flt.ord_nan_left b b h0]
 go_enter Tryz.func19,Tryz.ntmps19
 go_wp2
 all_goals
  go_ret
  exact⟨rfl,rfl⟩
def Bcd(b:Nat)(h0:Flt.nanB b=false)(h1:Flt.skey b<=0)(w:World):Calls Tryz.prog 19 #[.float .f64 b] w fun e w'=>e=.returned (.int .i64 (0:Nat))/\w'=w:=by
 have o1:FloatKind.f64.format.order b b=some .eq:=by rw[show FloatKind.f64.format.order b b=Flt.ord b b from rfl,Flt.ord_skey b b h0 h0,Flt.cmp_eq rfl]
 rcases Int.lt_or_eq_of_le h1 with h1|h1
 ·have o2:FloatKind.f64.format.order b 0=some .lt:=by rw[show FloatKind.f64.format.order b 0=Flt.ord b 0 from rfl,Flt.ord_skey b 0 h0 (by decide),Flt.cmp_lt (by rw[show Flt.skey 0=0 by decide];omega)]
  go_enter Tryz.func19,Tryz.ntmps19
  go_wp2
  all_goals
   go_ret
   exact⟨rfl,rfl⟩
 ·have o2:FloatKind.f64.format.order b 0=some .eq:=by rw[show FloatKind.f64.format.order b 0=Flt.ord b 0 from rfl,Flt.ord_skey b 0 h0 (by decide),Flt.cmp_eq (by rw[show Flt.skey 0=0 by decide];omega)]
  go_enter Tryz.func19,Tryz.ntmps19
  go_wp2
  all_goals
   go_ret
   exact⟨rfl,rfl⟩
def Bcb(b:Nat)(h0:Flt.nanB b=false)(h1:Flt.skey big<=Flt.skey b)(w:World):Calls Tryz.prog 19 #[.float .f64 b] w fun e w'=>e=.returned (.int .i64 (1000000000:Nat))/\w'=w:=by
 have o1:FloatKind.f64.format.order b b=some .eq:=by rw[show FloatKind.f64.format.order b b=Flt.ord b b from rfl,Flt.ord_skey b b h0 h0,Flt.cmp_eq rfl]
 have hb:(0:Int)<Flt.skey big:=by decide
 have o2:FloatKind.f64.format.order b 0=some .gt:=by rw[show FloatKind.f64.format.order b 0=Flt.ord b 0 from rfl,Flt.ord_skey b 0 h0 (by decide),Flt.cmp_gt (by rw[show Flt.skey 0=0 by decide];omega)]
 rcases Int.lt_or_eq_of_le h1 with h1|h1
 ·have o3:FloatKind.f64.format.order b 4741671816366391296=some .gt:=by rw[show FloatKind.f64.format.order b 4741671816366391296=Flt.ord b big from rfl,Flt.ord_skey b _ h0 (by decide),Flt.cmp_gt h1]
  go_enter Tryz.func19,Tryz.ntmps19
  go_wp2
  all_goals
   go_ret
   exact⟨rfl,rfl⟩
 ·have o3:FloatKind.f64.format.order b 4741671816366391296=some .eq:=by rw[show FloatKind.f64.format.order b 4741671816366391296=Flt.ord b big from rfl,Flt.ord_skey b _ h0 (by decide),Flt.cmp_eq h1.symm]
  go_enter Tryz.func19,Tryz.ntmps19
  go_wp2
  all_goals
   go_ret
   exact⟨rfl,rfl⟩
def Ala{n:Int}{b:Nat}(h:within n b=true):Flt.nanB b=false/\Flt.skey (floatOfInt .f64 n)<=Flt.skey b:=by
 have hn:=Flt.ofInt_nan n;cases hb:Flt.nanB b with
 |true=>
  have:FloatKind.f64.format.order (floatOfInt .f64 n) b=none:=Flt.ord_nan_right _ b hb;simp[within,this] at h
 |false=>
  refine⟨rfl,?_⟩;have ho:FloatKind.f64.format.order (floatOfInt .f64 n) b=some (compare (Flt.skey (floatOfInt .f64 n)) (Flt.skey b)):=Flt.ord_skey _ b hn hb;rcases Int.lt_trichotomy (Flt.skey (floatOfInt .f64 n)) (Flt.skey b) with h1|h1|h1
  ·omega
  ·omega
  ·rw[Flt.cmp_gt h1] at ho;simp[within,ho] at h
def limit_all(b:Nat):∃L:Nat,L<=1000000000/\(∀w:World,Calls Tryz.prog 19 #[.float .f64 b] w fun e w'=>e=.returned (.int .i64 L)/\w'=w)/\∀n:Nat,n<=1000000000->within n b=true->n<=L:=by
 have Qz:big=floatOfInt .f64 (1000000000:Nat):=by decide +kernel
 cases h0:Flt.nanB b with
 |true=>exact⟨0,by omega,Bcc b h0,fun n _ h=>by rw[(Ala h).1] at h0;cases h0⟩
 |false=>
  by_cases h1:Flt.skey b<=0
  ·refine⟨0,by omega,Bcd b h0 h1,fun n hn h=>?_⟩
   by_cases hz:n=0
   ·omega
   ·have hle:=(Ala h).2;have:=Flt.le_cut h0 hz (by omega) hle;obtain⟨k1,k2⟩:=Flt.V_R n hz (by omega);have hk:=Flt.ofInt_key (n:Int);rw[if_neg (by omega),Int.natAbs_natCast] at hk;have Cy:Flt.R n=0:=by omega
    rw[Cy] at k2;have:0<n*Flt.U:=Nat.mul_pos (by omega) Flt.U_pos;have h3:Flt.V 0=0:=by decide
    omega
  ·by_cases h2:Flt.skey b<Flt.skey big
   ·have Aa0:Flt.isNeg b=false:=by
     cases h:Flt.isNeg b with
     |false=>rfl
     |true=>unfold Flt.skey at h1;rw[h,if_pos rfl] at h1;omega
    rw[Qz] at h2;obtain⟨k1,k2⟩:=Flt.cut_lt (n:=1000000000) (by omega) (by omega) Aa0 h2;rw[<-Qz] at h2;have k3:=Flt.toInt_pos b k1 Aa0;have k4:∀n:Nat,n<=1000000000->within n b=true->n<=Flt.V (Flt.rung b) / Flt.U:=fun n hn h=>by
     by_cases hz:n=0
     ·rw[hz];exact Nat.zero_le _
     ·exact (Flt.le_cut h0 hz (by omega) (Ala h).2).2
    generalize Flt.V (Flt.rung b) / Flt.U=q at k2 k3 k4;exact⟨q,by omega,Bce b q h0 h1 h2 k3 (by omega),k4⟩
   ·exact⟨1000000000,by omega,Bcb b h0 (by omega),fun n hn _=>hn⟩
end Go.Proofs.YtgdkddjdhijfnaaGreatDoor.Nrm
namespace Go.Proofs.YtgdkddjdhijfnaaGreatDoor.Abs
open Go Go.RowKit Go.Proofs.YtgdkddjdhijfnaaGreatDoor
def Anf{P:Program}{f:Nat}{args:List SV}{r:SV}{v:Value}(hr:∀m,Rep m v r)(h:∀(m:Mem) (w:World) (vs:List Value),vs.length=args.length->(∀(j:Nat) v x,vs[j]?=some v->args[j]?=some x->Rep m v x) ->
  Calls P f vs.toArray w fun e w'=>e=.returned v/\w'=w):Contract P f args r:=by
 intro m w vs hm hl hp;refine (h m w vs hl hp).mono ?_;rintro e w' ⟨rfl,rfl⟩;exact⟨_,m,rfl,hr m,⟨.refl m,rfl⟩,fun _ _ _=>rfl,hm,rfl,rfl,rfl,q_ja _,fun _ _=>rfl⟩
def Azt(b:Nat):∃L:Nat,L<=1000000000/\Con 19 [.float .f64 b] (.int .i64 L)/\∀n:Nat,n<=1000000000->Nrm.within n b=true->n<=L:=by
 obtain⟨L,h1,h2,h3⟩:=Nrm.limit_all b;refine⟨L,h1,Anf (fun m=>.int _ _) (fun m w vs hl hr=>?_),h3⟩
 match vs,hl with
 |[v],_=>
  have h0:=hr 0 v _ rfl rfl;cases h0;exact h2 w
open Go Go.RowKit
abbrev By:=List UInt8
structure Tok where
 k:Nat
 w:By
 p:Nat
 deriving Inhabited
def Fx(t:Tok):List SV:=[.int .i64 t.k,.str (bs t.w),.int .i64 t.p]
def Mo(n:Nat):Bool:=(decide (97<=n) && decide (n<=122)) || (decide (65<=n) && decide (n<=90))
def Vj(n:Nat):Bool:=decide (48<=n) && decide (n<=57)
def Oz(c:UInt8):Bool:=Mo c.toNat || Vj c.toNat
def Ir:Nat->Nat->By->Option (List Tok)
 |0,_,_=>none
 |_+1,_,[]=>some []
 |f+1,p,c::r=>
  if c.toNat=32 then Ir f (p+1) r
  else if c.toNat=40 then (Ir f (p+1) r).map fun l=>⟨1,[c],p⟩::l
  else if c.toNat=41 then (Ir f (p+1) r).map fun l=>⟨2,[c],p⟩::l
  else if Mo c.toNat=true then
   if (r.takeWhile Oz).length<20 then (Ir f (p+1+(r.takeWhile Oz).length) (r.dropWhile Oz)).map fun l=>⟨3,c::r.takeWhile Oz,p⟩::l else none
  else if c.toNat=48 then
   match r with
   |[]=>some [⟨4,[c],p⟩]
   |d::_=>if Oz d=true then none else (Ir f (p+1) r).map fun l=>⟨4,[c],p⟩::l
  else none
inductive LE where
 |z|i|j|si|sj|m
 deriving DecidableEq,Inhabited
def LE.ev(i j:Nat):LE->Nat
 |.z=>0
 |.i=>i
 |.j=>j
 |.si=>i+1
 |.sj=>j+1
 |.m=>max i j
inductive LT where
 |var (n:Nat)
 |nd (k:Nat) (a b:LE) (n:Nat) (l:List LT)
 deriving Inhabited
def Kk:Tok->Option LE
 |⟨k,w,_⟩=>if k=4 then (if w==[48] then some .z else none) else if k=3 then (if w==[105] then some .i else if w==[106] then some .j else none) else none
def Rx{α:Type}(x:α):List Tok->Option (α×List Tok)
 |⟨k,_,_⟩::r=>if k=2 then some (x,r) else none
 |[]=>none
def Sv:List Tok->Option (LE×List Tok)
 |[]=>none
 |t::r=>
  if t.k=1 then
   match r with
   |u::x::r=>
    if u.k=3 then
     if u.w==[115,117,99] then (match Kk x with
      |some .i=>Rx .si r
      |some .j=>Rx .sj r
      |_=>none)
     else if u.w==[109,97,120] then (match r with
      |y::r=>(match Kk x,Kk y with
       |some .i,some .j=>Rx .m r
       |_,_=>none)
      |[]=>none)
     else none
    else none
   |_=>none
  else (Kk t).map fun e=>(e,r)
def Lw(w:By):List By->Option Nat
 |[]=>none
 |n::l=>if n==w then some 0 else (Lw w l).map (·+1)
def symsL:List By:=[[117,105,112],[102,117,110,101,120,116],[115,121,109],[116,114,97,110,115],[116,114],[104,101,116],[116,121,112],[116,114,104],[104,112],[104,50,101],[101,50,104],[114,112],[99,112,105],[99,115,105,103],[99,108,97,109],[99,97,112,112],[99,112,97,105,114],[99,102,115,116],[99,115,110,100],[99,101,113],[99,114,101,102,108]]
def arN(n:Nat):Nat:=[5,5,4,6,4,4,5,4,5,4,4,6,6,6,9,12,12,9,9,9,6].getD (n-1) 0
def Vn:List (By×Nat×By):=
 [([115,111,114,116],1,[76]),([80,105],13,[120,116,98]),([76,97,109],14,[120,116,98]),([65,112,112],15,[116,116]),([83,105,103],16,[120,116,98]),([80,97,105,114],17,[120,116,98,116,116]),([70,115,116],18,[116]),([83,110,100],19,[116]),([69,113],20,[116,116,116]),([82,101,102,108],21,[116,116]),([74],22,[116,116,121,101,80,116,116,116]),([117,115,101],23,[83,76,77])]
def Vm(w:By):List (By×Nat×By)->Option (Nat×By)
 |[]=>none
 |(v,k,s)::l=>if v==w then some (k,s) else Vm w l
abbrev TF:=List By->List Tok->Option (LT×List Tok)
def Qb(T:TF)(ns:List By):Nat->List Tok->Option (List LT×List Tok)
 |0,r=>some ([],r)
 |m+1,r=>match T ns r with
  |some (t,r)=>(match Qb T ns m r with
   |some (l,r)=>some (t::l,r)
   |none=>none)
  |none=>none
structure Acc where
 a:LE:=.z
 b:LE:=.z
 n:Nat:=0
 bd:List By:=[]
 l:List LT:=[]
 deriving Inhabited
def Nq(T:TF)(ns:List By)(k:Nat)(c:UInt8)(x:Acc)(r:List Tok):Option (Acc×List Tok):=
 if c.toNat=76 then (Sv r).map fun p=>({ x with a:=p.1 },p.2)
 else if c.toNat=77 then (match Sv r with
  |some (b,r)=>(Qb T ns (arN x.n) r).map fun p=>({ x with b:=b,l:=p.1 },p.2)
  |none=>none)
 else if c.toNat=83 then (match r with
  |⟨k,w,_⟩::r=>if k=3 then (Lw w symsL).map fun n=>({ x with n:=n+1 },r) else none
  |[]=>none)
 else if c.toNat=116 then (T ns r).map fun p=>({ x with l:=x.l++[p.1] },p.2)
 else if c.toNat=98\/c.toNat=80 then (if ns.isEmpty then none else (T (x.bd++ns) r).map fun p=>({ x with l:=x.l++[p.1] },p.2))
 else (match r with
  |⟨k,w,_⟩::r=>if k=3 then some ({ x with bd:=w::x.bd },r) else none
  |[]=>none)
def Gd(T:TF)(ns:List By)(k:Nat):By->Acc->List Tok->Option (LT×List Tok)
 |[],x,r=>Rx (.nd k x.a x.b x.n x.l) r
 |c::s,x,r=>match Nq T ns k c x r with
  |some (x,r)=>Gd T ns k s x r
  |none=>none
def Ju:Nat->TF
 |0,_,_=>none
 |f+1,ns,r=>match r with
  |[]=>none
  |t::r=>if t.k=3 then (Lw t.w ns).map fun n=>(.var n,r)
   else if t.k=1 then (match r with
    |[]=>none
    |u::r=>if u.k=3 then (match Vm u.w Vn with
     |some (k,s)=>Gd (Ju f) ns k s {} r
     |none=>none) else none)
   else none
structure LS where
 df:Bool
 nm:By
 ps:List LT
 ty:LT
 bd:Option LT
 deriving Inhabited
def Abv(f:Nat):Nat->List By->List LT->List Tok->Option (List By×List LT×List Tok)
 |0,_,_,_=>none
 |g+1,ns,ps,r=>match r with
  |[]=>none
  |t::r=>if t.k=1 then (match r with
    |u::r=>if u.k=3 then (match Ju f ns r with
     |some (a,r)=>(match Rx () r with
      |some (_,r)=>Abv f g (u.w::ns) (ps++[a]) r
      |none=>none)
     |none=>none) else none
    |[]=>none)
   else if t.k=2 then some (ns,ps,r) else none
def Un(tx:By):Option LS:=
 match Ir (tx.length+1) 0 tx with
 |some (a::b::c::d::r)=>
  if a.k=1/\b.k=3/\c.k=3/\d.k=1 then
   match Abv r.length r.length [] [] r with
   |some (ns,ps,r)=>(match Ju r.length ns r with
    |some (ty,r)=>if b.w==[100,101,102] then (match Ju r.length ns r with
      |some (bd,r)=>(match Rx () r with
       |some (_,[])=>some ⟨true,c.w,ps,ty,some bd⟩
       |_=>none)
      |none=>none)
     else (match Rx () r with
      |some (_,[])=>some ⟨false,c.w,ps,ty,none⟩
      |_=>none)
    |none=>none)
   |none=>none
  else none
 |_=>none
def Jt:Nat->List Tok->Option (Nat×List Tok)
 |_,[]=>none
 |d,t::r=>
  if t.k=1 then Jt (d+1) r
  else if t.k=2 then (match d with
   |0=>none
   |1=>some (t.p+t.w.length,r)
   |d+1=>Jt d r)
  else if d=0 then some (t.p+t.w.length,r) else Jt d r
def Afn(ns:List By)(tx:By):Option LT:=
 match Ir (tx.length+1) 0 tx with
 |some l=>(match Ju l.length ns l with
  |some (t,[])=>some t
  |_=>none)
 |none=>none
def Nv(tx:By)(ns:List By):List Tok->Option (LT×List Tok)
 |[]=>none
 |t::r=>match Jt 0 (t::r) with
  |some (e,r)=>if t.p<=e/\e<=tx.length then (Afn ns ((tx.drop t.p).take (e-t.p))).map fun x=>(x,r) else none
  |none=>none
def o5(tx:By):Nat->List By->List LT->List Tok->Option (List By×List LT×List Tok)
 |0,_,_,_=>none
 |g+1,ns,ps,r=>match r with
  |[]=>none
  |t::r=>if t.k=1 then (match r with
    |u::r=>(match Nv tx ns r with
     |some (a,_::r)=>o5 tx g (u.w::ns) (ps++[a]) r
     |_=>none)
    |[]=>none)
   else some (ns,ps,r)
def Aex(tx:By):Option LS:=
 match Ir (tx.length+1) 0 tx with
 |some (_::b::c::_::r)=>
   match o5 tx r.length [] [] r with
   |some (ns,ps,r)=>(match Nv tx ns r with
    |some (ty,r)=>if b.w==[100,101,102] then (match Nv tx ns r with
      |some (bd,_)=>some ⟨true,c.w,ps,ty,some bd⟩
      |none=>none)
     else some ⟨false,c.w,ps,ty,none⟩
    |none=>none)
   |none=>none
 |_=>none
open Go Go.Proofs Go.Proofs.YtgdkddjdhijfnaaGreatDoor
def af128:AF:=⟨17,[(.t 2)],(Ab [oP 2 (.mv (cB false))] (Ab [Aa 3 0,oP 4 (.bin 0 .leq (.c (.int .u8 97)) (.t 3)),Aa 5 4,oG 6 5 true 0 (mT 0),oG 7 5 true 0 (.bin 0 .leq (.t 6) (.c (.int .u8 122))),oP 8 (Az 5 7),Aa 9 8,oG 10 9 false 0 (mT 0),oG 11 9 false 0 (.bin 0 .leq (.c (.int .u8 65)) (.t 10)),oG 12 9 false 0 (mT 11),oG 13 12 true 0 (mT 0),oG 14 12 true 0 (.bin 0 .leq (.t 13) (.c (.int .u8 90))),oG 15 9 false 0 (Az 12 14),oP 16 (Bf 9 15),Aa 2 16] .ret))⟩
def tr128:trF Tryz.prog Tryz.f128=some af128:=by kernel_rfl
attribute [go_sem] af128
def af129:AF:=⟨9,[(.t 2)],(Ab [oP 2 (.mv (cB false))] (Ab [Aa 3 0,oP 4 (.bin 0 .leq (.c (.int .u8 48)) (.t 3)),Aa 5 4,oG 6 5 true 0 (mT 0),oG 7 5 true 0 (.bin 0 .leq (.t 6) (.c (.int .u8 57))),oP 8 (Az 5 7),Aa 2 8] .ret))⟩
def tr129:trF Tryz.prog Tryz.f129=some af129:=by kernel_rfl
attribute [go_sem] af129
def af87:AF:=⟨17,[(.t 2)],(Ab [oP 2 (.mv (cB false))] (Ab [Aa 3 0,oP 4 (.bin 0 .geq (.t 3) (.c (.int .u8 97))),Aa 5 4,oG 6 5 true 0 (mT 0),oG 7 5 true 0 (.bin 0 .leq (.t 6) (.c (.int .u8 122))),oP 8 (Az 5 7),Aa 9 8,oG 10 9 false 0 (mT 0),oG 11 9 false 0 (.bin 0 .geq (.t 10) (.c (.int .u8 65))),oG 12 9 false 0 (mT 11),oG 13 12 true 0 (mT 0),oG 14 12 true 0 (.bin 0 .leq (.t 13) (.c (.int .u8 90))),oG 15 9 false 0 (Az 12 14),oP 16 (Bf 9 15),Aa 2 16] .ret))⟩
def tr87:trF Tryz.prog Tryz.f87=some af87:=by kernel_rfl
attribute [go_sem] af87
def af88:AF:=⟨9,[(.t 2)],(Ab [oP 2 (.mv (cB false))] (Ab [Aa 3 0,oP 4 (.bin 0 .geq (.t 3) (.c (.int .u8 48))),Aa 5 4,oG 6 5 true 0 (mT 0),oG 7 5 true 0 (.bin 0 .leq (.t 6) (.c (.int .u8 57))),oP 8 (Az 5 7),Aa 2 8] .ret))⟩
def tr88:trF Tryz.prog Tryz.f88=some af88:=by kernel_rfl
attribute [go_sem] af88
def af124:AF:=⟨34,[(.t 4)],(Ab [oP 4 (.mv (cI 0))] (.seq (.blk 0 (.loop (.seq (Ab [Aa 5 1,Aa 6 0,oP 7 (.len true (.t 6)),oP 8 (Bb .lss 5 7)] (Cu 8 0)) (.blk 1 (Ab [Aa 9 0,Aa 10 1,oP 11 (.six (.t 9) (.t 10))] (.blk 2 (.seq (Ab [oP 14 (.bin 0 .eql (.t 11) (.c (.int .u8 32))),Aa 13 14] (Ae 13 .skip (Ab [oP 15 (.bin 0 .eql (.t 11) (.c (.int .u8 9))),Aa 13 15] (Ae 13 .skip (Ar [oP 16 (.bin 0 .eql (.t 11) (.c (.int .u8 10))),Aa 13 16]))))) (Ae 13 (Ar [Aa 17 1,oP 18 (An .add 17 1),Aa 1 18]) (Ab [oP 20 (.bin 0 .eql (.t 11) (.c (.int .u8 59))),Aa 19 20] (Ae 19 (.blk 3 (.loop (.seq (Ab [Aa 21 1,Aa 22 0,oP 23 (.len true (.t 22)),oP 24 (Bb .lss 21 23),Aa 25 24,oG 26 25 true 0 (mT 0),oG 27 25 true 0 (mT 1),oG 28 25 true 0 (.six (.t 26) (.t 27)),oG 29 25 true 0 (.bin 0 .neq (.t 28) (.c (.int .u8 10))),oP 30 (Az 25 29)] (Cu 30 3)) (.blk 4 (Ar [Aa 31 1,oP 32 (An .add 31 1),Aa 1 32]))))) (Ab [Aa 12 1,Aa 4 12] .ret))))))))))) (Ab [Aa 33 1,Aa 4 33] .ret)))⟩
def tr124:trF Tryz.prog Tryz.f124=some af124:=by kernel_rfl
attribute [go_sem] af124
def af125:AF:=⟨100,[(.cell 4 true 3),(.t 5)],(Ab [oP 4 (.new [(iS 0),(.str (bs [])),(iS 0)]),oP 5 (.mv (cB false))] (Ab [Aa 10 0,Aa 11 1,oP 12 (.six (.t 10) (.t 11)),Aa 13 1,oP 14 (An .add 13 1),Aa 6 12,Aa 7 14] (.seq (.blk 0 (Ab [Aa 16 6,oP 17 (.bin 0 .eql (.t 16) (.c (.int .u8 40))),Aa 15 17] (Ae 15 (Ab [Aa 18 1,oP 19 (.build [(iS 0),(.str (bs [])),(iS 0)] [(0,(1,(cI 1))),(1,(1,(Ay [40]))),(2,(1,(.t 18)))]),oN (Al 3 4 19),oP 5 (.mv (cB true))] .ret) (Ab [Aa 21 6,oP 22 (.bin 0 .eql (.t 21) (.c (.int .u8 41))),Aa 20 22] (Ae 20 (Ab [Aa 23 1,oP 24 (.build [(iS 0),(.str (bs [])),(iS 0)] [(0,(1,(cI 2))),(1,(1,(Ay [41]))),(2,(1,(.t 23)))]),oN (Al 3 4 24),oP 5 (.mv (cB true))] .ret) (Ab [Aa 26 6,oP 27 (.call 128 [(.t 26)]),Aa 25 27] (Ae 25 (.seq (.blk 1 (.loop (.seq (Ab [Aa 28 7,Aa 29 0,oP 30 (.len true (.t 29)),oP 31 (Bb .lss 28 30),Aa 32 31,oG 33 32 true 0 (mT 0),oG 34 32 true 0 (mT 7),oG 35 32 true 0 (.six (.t 33) (.t 34)),oG 36 32 true 0 (.call 128 [(.t 35)]),oG 37 32 true 0 (mT 36),oG 38 37 false 0 (mT 0),oG 39 37 false 0 (mT 7),oG 40 37 false 0 (.six (.t 38) (.t 39)),oG 41 37 false 0 (.call 129 [(.t 40)]),oG 42 32 true 0 (Bf 37 41),oP 43 (Az 32 42)] (Cu 43 1)) (.blk 2 (Ar [Aa 44 7,oP 45 (An .add 44 1),Aa 7 45]))))) (Ab [Aa 46 0,Aa 47 1,Aa 48 7,oP 49 (.slc 0 (.t 46) (some (.t 47)) (some (.t 48))),Aa 50 1,oP 51 (.build [(iS 0),(.str (bs [])),(iS 0)] [(0,(1,(cI 3))),(1,(1,(.t 49))),(2,(1,(.t 50)))]),Aa 52 7,Aa 53 1,oP 54 (Bb .sub 52 53),oP 55 (An .leq 54 20),oN (Al 3 4 51),Aa 5 55] .ret)) (Ab [Aa 57 6,oP 58 (.call 129 [(.t 57)]),Aa 56 58] (Ae 56 (.seq (.blk 3 (.loop (.seq (Ab [Aa 59 7,Aa 60 0,oP 61 (.len true (.t 60)),oP 62 (Bb .lss 59 61),Aa 63 62,oG 64 63 true 0 (mT 0),oG 65 63 true 0 (mT 7),oG 66 63 true 0 (.six (.t 64) (.t 65)),oG 67 63 true 0 (.call 129 [(.t 66)]),oP 68 (Az 63 67)] (Cu 68 3)) (.blk 4 (Ar [Aa 69 7,oP 70 (An .add 69 1),Aa 7 70]))))) (Ab [Aa 72 0,Aa 73 1,Aa 74 7,oP 75 (.slc 0 (.t 72) (some (.t 73)) (some (.t 74))),oP 76 (.call 130 [(.t 75)]),Aa 71 76,oP 77 (.ext (.t 71) 0),oP 78 (.ext (.t 71) 1),Aa 8 77,Aa 9 78] (Ce [Aa 79 0,oI 80 1 (mT 1),oI 81 2 (mT 7),⟨(some 82),(.slc 0 (.t 79) (some (.t 80)) (some (.t 81))),none,3,true,[]⟩,oI 83 4 (mT 1),oI 84 5 (.build [(iS 0),(.str (bs [])),(iS 0)] [(0,(1,(cI 4))),(1,(1,(.t 82))),(2,(1,(.t 83)))]),oI 85 6 (mT 9),oI 86 7 (mT 85),oG 87 86 true 8 (mT 7),oG 88 86 true 9 (mT 0),oG 89 86 true 10 (.len true (.t 88)),oG 90 86 true 11 (Bb .eql 87 89),oG 91 86 true 12 (mT 90),oG 92 91 false 13 (mT 0),oG 93 91 false 14 (mT 7),oG 94 91 false 15 (.six (.t 92) (.t 93)),⟨(some 95),(.call 128 [(.t 94)]),(some (91,false)),16,false,[3]⟩,oG 96 91 false 17 (.un .not (.t 95)),oG 97 86 true 18 (Bf 91 96),oI 98 19 (Az 86 97),oJ 20 (Al 3 4 84),oI 5 21 (mT 98)] .ret))) .skip))))))))) (Ab [oP 99 (.build [(iS 0),(.str (bs [])),(iS 0)] []),oN (Al 3 4 99),oP 5 (.mv (cB false))] .ret))))⟩
def tr125:trF Tryz.prog Tryz.f125=some af125:=by kernel_rfl
attribute [go_sem] af125
def af120:AF:=⟨36,[(.t 2),(.t 3),(.t 4)],(Ab [oP 2 (.mv (.c .nils)),oP 3 (.mv (cI 0)),oP 4 (.mv (cI 0))] (Ab [oP 5 (.mv (.c .nils))] (.seq (Ab [Aa 9 0,oP 10 (.call 124 [(.t 9),(cI 0)]),Aa 6 10] (.blk 0 (.loop (.seq (Ab [Aa 11 6,Aa 12 0,oP 13 (.len true (.t 12)),oP 14 (Bb .lss 11 13)] (Cu 14 0)) (.blk 1 (Ab [Aa 16 0,Aa 17 6,oP 18 (.call 125 [(.t 16),(.t 17)]),Aa 15 18,oP 19 (.ext (.t 15) 0),oP 20 (.ext (.t 15) 1),oP 7 (.new [(iS 0),(.str (bs [])),(iS 0)]),oN (Al 3 7 19),Aa 8 20] (.seq (Ab [Aa 21 8,oP 22 (.un .not (.t 21))] (Ae 22 (Ab [Aa 23 6,oP 2 (.mv (.c .nils)),oP 3 (.mv (cI 2)),Aa 4 23] .ret) .skip)) (Ab [Aa 24 5,oP 25 (Ak 3 7),oP 26 (.bslice 3 [(.t 25)]),oP 27 (.app 3 32 (.t 24) (.t 26)),Aa 5 27] (Ar [Aa 28 0,Aa 29 6,oP 30 (Ac 1 7),oP 31 (Ad 30),oP 32 (.len true (.t 31)),oP 33 (Bb .add 29 32),oP 34 (.call 124 [(.t 28),(.t 33)]),Aa 6 34]))))))))) (Ab [Aa 35 5,Aa 2 35,oP 3 (.mv (cI 0)),oP 4 (.mv (cI 0))] .ret))))⟩
def tr120:trF Tryz.prog Tryz.f120=some af120:=by kernel_rfl
attribute [go_sem] af120
def af65:AF:=⟨154,[(.t 2),(.t 3)],(Ab [oP 2 (.mv (.c .nils)),oP 3 (.mv (cI 0))] (Ab [oP 4 (.mv (.c .nils))] (Ab [oP 5 (.mv (cI 0))] (.seq (.blk 0 (.loop (.seq (Ab [Aa 10 5,Aa 11 0,oP 12 (.len true (.t 11)),oP 13 (Bb .lss 10 12)] (Cu 13 0)) (.blk 1 (Ab [Aa 14 0,Aa 15 5,oP 16 (.six (.t 14) (.t 15)),Aa 6 16] (Ab [Aa 17 5,Aa 7 17] (.seq (.blk 2 (Ab [Aa 21 6,oP 22 (.bin 0 .eql (.t 21) (.c (.int .u8 32))),Aa 23 22,oG 24 23 false 0 (mT 6),oG 25 23 false 0 (.bin 0 .eql (.t 24) (.c (.int .u8 9))),oP 26 (Bf 23 25),Aa 27 26,oG 28 27 false 0 (mT 6),oG 29 27 false 0 (.bin 0 .eql (.t 28) (.c (.int .u8 10))),oP 30 (Bf 27 29),Aa 20 30] (Ae 20 (Ab [Aa 31 5,oP 32 (An .add 31 1),Aa 5 32] (.exit 1)) (Ab [Aa 34 6,oP 35 (.bin 0 .eql (.t 34) (.c (.int .u8 59))),Aa 33 35] (Ae 33 (.seq (.blk 3 (.loop (.seq (Ab [Aa 36 5,Aa 37 0,oP 38 (.len true (.t 37)),oP 39 (Bb .lss 36 38),Aa 40 39,oG 41 40 true 0 (mT 0),oG 42 40 true 0 (mT 5),oG 43 40 true 0 (.six (.t 41) (.t 42)),oG 44 40 true 0 (.bin 0 .neq (.t 43) (.c (.int .u8 10))),oP 45 (Az 40 44)] (Cu 45 3)) (.blk 4 (Ar [Aa 46 5,oP 47 (An .add 46 1),Aa 5 47]))))) (.exit 1)) (Ab [Aa 49 6,oP 50 (.bin 0 .eql (.t 49) (.c (.int .u8 40))),Aa 48 50] (Ae 48 (Ab [Aa 51 4,Aa 52 5,oP 53 (.build [(iS 0),(.str (bs [])),(iS 0)] [(0,(1,(cI 1))),(1,(1,(Ay [40]))),(2,(1,(.t 52)))]),oP 54 (.bslice 3 [(.t 53)]),oP 55 (.app 3 32 (.t 51) (.t 54)),Aa 4 55] (Ab [Aa 56 5,oP 57 (An .add 56 1),Aa 5 57] (.exit 1))) (Ab [Aa 59 6,oP 60 (.bin 0 .eql (.t 59) (.c (.int .u8 41))),Aa 58 60] (Ae 58 (Ab [Aa 61 4,Aa 62 5,oP 63 (.build [(iS 0),(.str (bs [])),(iS 0)] [(0,(1,(cI 2))),(1,(1,(Ay [41]))),(2,(1,(.t 62)))]),oP 64 (.bslice 3 [(.t 63)]),oP 65 (.app 3 32 (.t 61) (.t 64)),Aa 4 65] (Ab [Aa 66 5,oP 67 (An .add 66 1),Aa 5 67] (.exit 1))) (Ab [Aa 69 6,oP 70 (.call 87 [(.t 69)]),Aa 68 70] (Ae 68 (.seq (.blk 5 (.loop (.seq (Ab [Aa 71 7,Aa 72 0,oP 73 (.len true (.t 72)),oP 74 (Bb .lss 71 73),Aa 75 74,oG 76 75 true 0 (mT 0),oG 77 75 true 0 (mT 7),oG 78 75 true 0 (.six (.t 76) (.t 77)),oG 79 75 true 0 (.call 87 [(.t 78)]),oG 80 75 true 0 (mT 79),oG 81 80 false 0 (mT 0),oG 82 80 false 0 (mT 7),oG 83 80 false 0 (.six (.t 81) (.t 82)),oG 84 80 false 0 (.call 88 [(.t 83)]),oG 85 75 true 0 (Bf 80 84),oP 86 (Az 75 85)] (Cu 86 5)) (.blk 6 (Ar [Aa 87 7,oP 88 (An .add 87 1),Aa 7 88]))))) (.seq (Ab [Aa 89 7,Aa 90 5,oP 91 (Bb .sub 89 90),oP 92 (An .gtr 91 20)] (Ae 92 (Ab [Aa 93 4,Aa 94 5,Aa 2 93,Aa 3 94] .ret) .skip)) (Ar [Aa 95 4,Aa 96 0,Aa 97 5,Aa 98 7,oP 99 (.slc 0 (.t 96) (some (.t 97)) (some (.t 98))),Aa 100 5,oP 101 (.build [(iS 0),(.str (bs [])),(iS 0)] [(0,(1,(cI 3))),(1,(1,(.t 99))),(2,(1,(.t 100)))]),oP 102 (.bslice 3 [(.t 101)]),oP 103 (.app 3 32 (.t 95) (.t 102)),Aa 4 103]))) (Ab [Aa 105 6,oP 106 (.call 88 [(.t 105)]),Aa 104 106] (Ae 104 (.seq (.blk 7 (.loop (.seq (Ab [Aa 107 7,Aa 108 0,oP 109 (.len true (.t 108)),oP 110 (Bb .lss 107 109),Aa 111 110,oG 112 111 true 0 (mT 0),oG 113 111 true 0 (mT 7),oG 114 111 true 0 (.six (.t 112) (.t 113)),oG 115 111 true 0 (.call 88 [(.t 114)]),oP 116 (Az 111 115)] (Cu 116 7)) (.blk 8 (Ar [Aa 117 7,oP 118 (An .add 117 1),Aa 7 118]))))) (Ab [Aa 120 0,Aa 121 5,Aa 122 7,oP 123 (.slc 0 (.t 120) (some (.t 121)) (some (.t 122))),oP 124 (.call 89 [(.t 123)]),Aa 119 124,oP 125 (.ext (.t 119) 0),oP 126 (.ext (.t 119) 1),Aa 8 125,Aa 9 126] (.seq (Ab [Aa 127 9,oP 128 (.un .not (.t 127)),Aa 129 128,oG 130 129 false 0 (mT 7),oG 131 129 false 0 (mT 0),oG 132 129 false 0 (.len true (.t 131)),oG 133 129 false 0 (Bb .lss 130 132),oG 134 129 false 0 (mT 133),oG 135 134 true 0 (mT 0),oG 136 134 true 0 (mT 7),oG 137 134 true 0 (.six (.t 135) (.t 136)),oG 138 134 true 0 (.call 87 [(.t 137)]),oG 139 129 false 0 (Az 134 138),oP 140 (Bf 129 139)] (Ae 140 (Ab [Aa 141 4,Aa 142 5,Aa 2 141,Aa 3 142] .ret) .skip)) (Ar [Aa 143 4,Aa 144 0,Aa 145 5,Aa 146 7,oP 147 (.slc 0 (.t 144) (some (.t 145)) (some (.t 146))),Aa 148 5,oP 149 (.build [(iS 0),(.str (bs [])),(iS 0)] [(0,(1,(cI 4))),(1,(1,(.t 147))),(2,(1,(.t 148)))]),oP 150 (.bslice 3 [(.t 149)]),oP 151 (.app 3 32 (.t 143) (.t 150)),Aa 4 151])))) (Ab [Aa 18 4,Aa 19 5,Aa 2 18,Aa 3 19] .ret)))))))))))))) (Ar [Aa 152 7,Aa 5 152])))))))) (Ab [Aa 153 4,Aa 2 153,oP 3 (.mv (cI (-1)))] .ret)))))⟩
def tr65:trF Tryz.prog Tryz.f65=some af65:=by kernel_rfl
attribute [go_sem] af65
def af89:AF:=⟨51,[(.t 2),(.t 3)],(Ab [oP 2 (.mv (cI 0)),oP 3 (.mv (cB false))] (.seq (Ab [Aa 6 0,oP 7 (.len true (.t 6)),oP 8 (Aj 7 0),Aa 9 8,oG 10 9 false 0 (mT 0),oG 11 9 false 0 (.len true (.t 10)),oG 12 9 false 0 (An .gtr 11 7),oP 13 (Bf 9 12),Aa 14 13,oG 15 14 false 0 (mT 0),oG 16 14 false 0 (.len true (.t 15)),oG 17 14 false 0 (An .gtr 16 1),oG 18 14 false 0 (mT 17),oG 19 18 true 0 (mT 0),oG 20 18 true 0 (.six (.t 19) (cI 0)),oG 21 18 true 0 (.bin 0 .eql (.t 20) (.c (.int .u8 48))),oG 22 14 false 0 (Az 18 21),oP 23 (Bf 14 22)] (Ae 23 (Ab [oP 2 (.mv (cI 0)),oP 3 (.mv (cB false))] .ret) .skip)) (Ab [oP 4 (.mv (cI 0))] (.seq (Ab [oP 5 (.mv (cI 0))] (.blk 0 (.loop (.seq (Ab [Aa 24 5,Aa 25 0,oP 26 (.len true (.t 25)),oP 27 (Bb .lss 24 26)] (Cu 27 0)) (.seq (.blk 1 (.seq (Ab [Aa 30 0,Aa 31 5,oP 32 (.six (.t 30) (.t 31)),oP 33 (.bin 0 .lss (.t 32) (.c (.int .u8 48))),Aa 34 33,oG 35 34 false 0 (mT 0),oG 36 34 false 0 (mT 5),oG 37 34 false 0 (.six (.t 35) (.t 36)),oG 38 34 false 0 (.bin 0 .gtr (.t 37) (.c (.int .u8 57))),oP 39 (Bf 34 38)] (Ae 39 (Ab [oP 2 (.mv (cI 0)),oP 3 (.mv (cB false))] .ret) .skip)) (Ar [Aa 40 4,oP 41 (.bin 0 .mul (cI 10) (.t 40)),Aa 42 0,Aa 43 5,oP 44 (.six (.t 42) (.t 43)),oP 45 (.bin 0 .sub (.t 44) (.c (.int .u8 48))),oP 46 (.conv .i64 (.t 45)),oP 47 (Bb .add 41 46),Aa 4 47]))) (Ar [Aa 28 5,oP 29 (An .add 28 1),Aa 5 29])))))) (.seq (Ab [Aa 48 4,oP 49 (An .gtr 48 1000000)] (Ae 49 (Ab [oP 2 (.mv (cI 0)),oP 3 (.mv (cB false))] .ret) .skip)) (Ab [Aa 50 4,Aa 2 50,oP 3 (.mv (cB true))] .ret))))))⟩
def tr89:trF Tryz.prog Tryz.f89=some af89:=by kernel_rfl
attribute [go_sem] af89
def af130:AF:=⟨47,[(.t 2),(.t 3)],(Ab [oP 2 (.mv (cI 0)),oP 3 (.mv (cB false))] (.seq (Ab [Aa 6 0,oP 7 (.len true (.t 6)),oP 8 (Aj 7 0),Aa 9 8,oG 10 9 false 0 (mT 0),oG 11 9 false 0 (.len true (.t 10)),oG 12 9 false 0 (An .gtr 11 7),oP 13 (Bf 9 12)] (Ae 13 (Ab [oP 2 (.mv (cI 0)),oP 3 (.mv (cB false))] .ret) .skip)) (Ab [oP 4 (.mv (cI 0))] (.seq (Ab [Aa 14 0,oP 15 (.len true (.t 14)),oP 16 (.mv (cI 0))] (.blk 0 (.loop (Ab [oP 17 (Bb .lss 16 15)] (.seq (Cu 17 0) (.seq (.blk 1 (Ab [Aa 18 16,Aa 5 18] (.seq (Ab [Aa 19 0,Aa 20 5,oP 21 (.six (.t 19) (.t 20)),oP 22 (.bin 0 .lss (.t 21) (.c (.int .u8 48))),Aa 23 22,oG 24 23 false 0 (mT 0),oG 25 23 false 0 (mT 5),oG 26 23 false 0 (.six (.t 24) (.t 25)),oG 27 23 false 0 (.bin 0 .gtr (.t 26) (.c (.int .u8 57))),oP 28 (Bf 23 27)] (Ae 28 (Ab [oP 2 (.mv (cI 0)),oP 3 (.mv (cB false))] .ret) .skip)) (Ar [Aa 29 4,oP 30 (.bin 0 .mul (cI 10) (.t 29)),Aa 31 0,Aa 32 5,oP 33 (.six (.t 31) (.t 32)),oP 34 (.bin 0 .sub (.t 33) (.c (.int .u8 48))),oP 35 (.conv .i64 (.t 34)),oP 36 (Bb .add 30 35),Aa 4 36])))) (Ar [oP 37 (An .add 16 1),Aa 16 37]))))))) (.seq (Ab [Aa 38 4,oP 39 (An .gtr 38 1000000),Aa 40 39,oG 41 40 false 0 (mT 4),oG 42 40 false 0 (.call 135 [(.t 41)]),oG 43 40 false 0 (mT 0),oG 44 40 false 0 (.bin 4 .neq (.t 42) (.t 43)),oP 45 (Bf 40 44)] (Ae 45 (Ab [oP 2 (.mv (cI 0)),oP 3 (.mv (cB false))] .ret) .skip)) (Ab [Aa 46 4,Aa 2 46,oP 3 (.mv (cB true))] .ret))))))⟩
def tr130:trF Tryz.prog Tryz.f130=some af130:=by kernel_rfl
attribute [go_sem] af130
def af135:AF:=⟨5,[(.t 2)],(Ab [oP 2 (.mv (Ay []))] (Ab [Aa 3 0,oP 4 (.call 140 [(.t 3)]),Aa 2 4] .ret))⟩
def tr135:trF Tryz.prog Tryz.f135=some af135:=by kernel_rfl
attribute [go_sem] af135
def lw{α:Type}(S:α->St)(μ:α->Nat)(I:α->Prop)(a:α)(Q:AE->St->Prop):AE->St->Prop:=fun e s'=>match e with|.normal=>∃a',(μ a'<μ a/\I a')/\Wk s' (S a')|e=>Q e s'
def lw_n{α:Type}{S:α->St}{μ:α->Nat}{I:α->Prop}{a:α}{Q:AE->St->Prop}{s:St}:lw S μ I a Q .normal s=∃a',(μ a'<μ a/\I a')/\Wk s (S a'):=q_z
def lw_e{α:Type}{S:α->St}{μ:α->Nat}{I:α->Prop}{a:α}{Q:AE->St->Prop}{s:St}{j:Nat}:lw S μ I a Q (.exit j) s=Q (.exit j) s:=q_z
def lw_r{α:Type}{S:α->St}{μ:α->Nat}{I:α->Prop}{a:α}{Q:AE->St->Prop}{s:St}:lw S μ I a Q .ret s=Q .ret s:=q_z
attribute [go_sem] lw_n lw_e lw_r
def p9{C:CT}{b:AC}{Q:AE->St->Prop}{α:Type}(S:α->St)(μ:α->Nat)(I:α->Prop)(So:∀a,I a->vc C b (lw S μ I a Q) (S a)){s:St}(a0:α)(hI:I a0)(h0:Wk s (S a0)):vc C (.loop b) Q s:=by
 refine Ak5 (fun m s=>∃a,(m=μ a/\I a)/\Wk s (S a)) (fun m s hI=>?_) (μ a0) s ⟨a0,⟨rfl,hI⟩,h0⟩;obtain⟨a,⟨rfl,hI⟩,hw⟩:=hI;refine⟨S a,hw,p8 (fun e s' he=>?_) (So a hI)⟩;cases e with
 |normal=>
  obtain⟨a',⟨h1,h2⟩,h3⟩:=he;exact⟨μ a',h1,a',⟨rfl,h2⟩,h3⟩
 |exit id=>exact he
 |ret=>exact he
def Aqy(a b:Nat):((a:Int)==(b:Int))=decide (a=b):=by
 by_cases h:a=b
 ·subst h;simp
 ·simp[h,Int.natCast_inj]
def chN(l:By)(p:Nat):Nat:=(l.getD p 0).toNat
def Ew(l:By)(p:Nat):Zj (bs l) p=((chN l p:Nat):Int):=Amm l p
def v8(n:Nat):Con 128 [.int .u8 n] (.bool (Mo n)):=by
 refine Au mixed Tryz.func128 tr128 ?_;unfold Mo
 by_cases h1:97<=n<;>by_cases h2:n<=122<;>by_cases h3:65<=n<;>by_cases h4:n<=90 <;>
  simp only[go_sem,seval,h1,h2,h3,h4,show ((97:Int)<=(n:Int))=(97<=n) from propext (by omega),show ((n:Int)<=122)=(n<=122) from propext (by omega),show ((65:Int)<=(n:Int))=(65<=n) from propext (by omega),show ((n:Int)<=90)=(n<=90) from propext (by omega),decide_true,decide_false,q_le,q_lg,Bool.or_true,Bool.or_false,q_lf,q_lh,Bool.false_or,Bool.true_or]
def Ac0(n:Nat):Con 129 [.int .u8 n] (.bool (Vj n)):=by
 refine Au mixed Tryz.func129 tr129 ?_;unfold Vj
 by_cases h1:48<=n<;>by_cases h2:n<=57 <;>
  simp only[go_sem,seval,h1,h2,show ((48:Int)<=(n:Int))=(48<=n) from propext (by omega),show ((n:Int)<=57)=(n<=57) from propext (by omega),decide_true,decide_false,q_le,q_lg,q_lf,q_lh]
def w6(n:Nat):Con 87 [.int .u8 n] (.bool (Mo n)):=by
 refine Au mixed Tryz.func87 tr87 ?_;unfold Mo
 by_cases h1:97<=n<;>by_cases h2:n<=122<;>by_cases h3:65<=n<;>by_cases h4:n<=90 <;>
  simp only[go_sem,seval,h1,h2,h3,h4,ge_iff_le,show ((97:Int)<=(n:Int))=(97<=n) from propext (by omega),show ((n:Int)<=122)=(n<=122) from propext (by omega),show ((65:Int)<=(n:Int))=(65<=n) from propext (by omega),show ((n:Int)<=90)=(n<=90) from propext (by omega),decide_true,decide_false,q_le,q_lg,Bool.or_true,Bool.or_false,q_lf,q_lh,Bool.false_or,Bool.true_or]
def v9(n:Nat):Con 88 [.int .u8 n] (.bool (Vj n)):=by
 refine Au mixed Tryz.func88 tr88 ?_;unfold Vj
 by_cases h1:48<=n<;>by_cases h2:n<=57 <;>
  simp only[go_sem,seval,h1,h2,ge_iff_le,show ((48:Int)<=(n:Int))=(48<=n) from propext (by omega),show ((n:Int)<=57)=(n<=57) from propext (by omega),decide_true,decide_false,q_le,q_lg,q_lf,q_lh]
def Ami(l:By)(p q:Nat):Prop:=p<=q/\q<=l.length/\(∀r,p<=r->r<q->chN l r=32)/\(q<l.length->chN l q≠32/\chN l q≠9/\chN l q≠10/\chN l q≠59)
def Oq{a b:Nat}(h:a≠b):((a:Int)==(b:Int))=false:=by rw[Aqy];simp[h]
def Ag0(l:By)(hl:l.length<1000000000000){p q:Nat}(h:Ami l p q):Con 124 [.str (bs l),.int .i64 p] (.int .i64 q):=by
 obtain⟨h1,h2,h3,h4⟩:=h;refine Au mixed Tryz.func124 tr124 ?_;simp only[go_sem,seval];refine p9 (fun a:Nat=>⟨(.str (bs l)::.int .i64 a::.J::.J::.int .i64 0::Do (jk8 (jk4 (.J::[])))),[]⟩) (fun a=>q-a) (fun a=>p<=a/\a<=q) (fun a ha=>?_) p ⟨q_ja _,h1⟩ (Bk (by simp[Ba]))
 by_cases hq:a<q
 ·have hc:=h3 a ha.1 hq;have e0:(0:Int)<=(a:Int):=by omega
  have e1:(a:Int)<(l.length:Int):=by omega
  have e2:a<l.length:=by omega
  simp only[go_sem,seval,Ew,e0,e1,e2,hc];refine⟨a+1,⟨by omega,by omega⟩,?_⟩;rw[show ((a:Int)+1)=((a+1:Nat):Int) by omega,w64 (by unfold fit;omega)];exact Bk (by simp[Ba])
 ·have:a=q:=by omega
  subst this
  by_cases Ag:a<l.length
  ·obtain⟨c1,c2,c3,c4⟩:=h4 Ag;have e0:(0:Int)<=(a:Int):=by omega
   have e1:(a:Int)<(l.length:Int):=by omega
   have d1:=Oq c1;have d2:=Oq c2;have d3:=Oq c3;have d4:=Oq c4;simp only[go_sem,seval,Ew,e0,e1,Ag];simp only[Int.cast_ofNat_Int] at d1 d2 d3 d4;simp only[go_sem,seval,d1,d2,d3,d4]
  ·have e1:¬(a:Int)<(l.length:Int):=by omega
   simp only[go_sem,seval,e1]
end Go.Proofs.YtgdkddjdhijfnaaGreatDoor.Abs
namespace Go.Proofs.YtgdkddjdhijfnaaGreatDoor.Nrm
open Go Go.RowKit
def fmt_zero(w:World):Calls Tryz.prog 144 #[.int .i64 0,.int .i64 10] w fun e w'=>e=.returned (.string ⟨#[48]⟩)/\w'=w:=by
 go_enter Tryz.func144,Tryz.ntmps144
 go_wp2
 all_goals
  go_ret
  exact⟨by kernel_rfl,rfl⟩
end Go.Proofs.YtgdkddjdhijfnaaGreatDoor.Nrm
namespace Go.Proofs.YtgdkddjdhijfnaaGreatDoor.Abs
open Go Go.Proofs Go.Proofs.YtgdkddjdhijfnaaGreatDoor
def af140:AF:=⟨5,[(.t 2)],(Ab [oP 2 (.mv (Ay []))] (Ab [Aa 3 0,oP 4 (.call 143 [(.t 3)]),Aa 2 4] .ret))⟩
def tr140:trF Tryz.prog Tryz.f140=some af140:=by kernel_rfl
attribute [go_sem] af140
def af143:AF:=⟨5,[(.t 2)],(Ab [oP 2 (.mv (Ay []))] (Ab [Aa 3 0,oP 4 (.call 144 [(.t 3),(cI 10)]),Aa 2 4] .ret))⟩
def tr143:trF Tryz.prog Tryz.f143=some af143:=by kernel_rfl
attribute [go_sem] af143
end Go.Proofs.YtgdkddjdhijfnaaGreatDoor.Abs
