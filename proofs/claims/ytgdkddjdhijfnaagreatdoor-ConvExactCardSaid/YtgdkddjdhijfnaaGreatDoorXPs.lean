import Derived.Test.YtgdkddjdhijfnaaGreatDoorXPq
set_option linter.all false
set_option maxRecDepth 20000
set_option maxHeartbeats 4000000
namespace Go.Proofs.YtgdkddjdhijfnaaGreatDoor.Abs
open Go Go.RowKit Go.Proofs.YtgdkddjdhijfnaaGreatDoor
def CN(t:Tm)(N:Nat)(N':Nat)(o':Bool)(r:Tm):Prop:=∀(sid:Nat) (G:GV),G[sid]?=some (Ek N false)->Am 23 G [.gp sid 0,.agg true (tv t)] (.ret (.agg true (tv r))) (G.set sid (Ek N' o'))
inductive CNl:List Tm->Nat->Bool->Nat->Bool->List Tm->Prop
 |nil {N:Nat} {o:Bool}:CNl [] N o N o []
 |out {a:Tm} {l:List Tm} {N:Nat}:CNl (a::l) N true N true []
 |cons {a r:Tm} {l rs:List Tm} {N N1 N2:Nat} {o1 o2:Bool} (h:CN a N N1 o1 r) (hl:CNl l N1 o1 N2 o2 rs):CNl (a::l) N false N2 o2 (r::rs)
def nS(G:GV)(sid:Nat)(k i j n:Int)(l done:List Tm):St:=
 ⟨(.gp sid 0::.J::.J::.ref 1 0 0 0::.ref 2 0 0 0::.ref 3 0 0 0::.osl 4 done.length 0 done.length::.int .i64 done.length::Bo (jk4 (jk2 (.J::[])))),[gOb G,⟨true,5,[[.int .i64 k,.int .i64 i,.int .i64 j,.int .i64 n,.dsl 5 (l.map tv)]],0,0,true⟩,⟨true,5,[[.int .i64 0,.int .i64 0,.int .i64 0,.int .i64 0,.nils]],0,0,true⟩,⟨true,5,[[.int .i64 k,.int .i64 i,.int .i64 j,.int .i64 n,.nils]],0,0,true⟩,⟨false,5,done.map tv,done.length-1,done.length,true⟩]⟩
def NoL(G:GV)(sid:Nat)(k i j n:Int)(l done:List Tm)(out:HOut)(G':GV)(m:Nat):Prop:=
 vcI (Bp Tryz.prog fun _ _=>False) a23_12 (bk 0 (sq (Bp Tryz.prog fun _ _=>False) a23_19 (rtG [.cell 4 true 5] out G'))) m (nS G sid k i j n l done)
def Ar6{G:GV}{sid N:Nat}{o:Bool}{k i j n:Int}{l done:List Tm}(Ck:l.length<=100)(hd:done.length<=100)(hG:G[sid]?=some (Ek N o))(h:o=true\/l.length<=done.length):NoL G sid k i j n l done (.ret (.agg true (tv (.mk k i j n done)))) G 1:=by
 refine Bd ?_;unfold nS;rw[As];have ht:(done.map tv).take done.length=done.map tv:=q_js (by simp)
 by_cases c:l.length<=done.length
 ·simp only[go_sem,seval,hG,Ek,q_g,q_je (show ¬(done.length:Int)<l.length by omega),ht]
 ·have ho:o=true:=by rcases h with h|h;exact h;exact absurd h c
  subst ho;simp only[go_sem,seval,hG,Ek,q_g,q_jn (show (done.length:Int)<l.length by omega),ht]
def Bdx{sid N N':Nat}{o o':Bool}{ls rs:List Tm}(h:CNl ls N o N' o' rs):∀{G:GV} {k i j n:Int} {l done:List Tm},l.length<=100->done.length<=100->G[sid]?=some (Ek N o)->l.drop done.length=ls->∃m,NoL G sid k i j n l done (.ret (.agg true (tv (.mk k i j n (done++rs))))) (G.set sid (Ek N' o')) m:=by
 induction h with
 |@nil N o=>
  intro G k i j n l done Ck hd hG hl;rw[Adg hG,q_k];exact⟨1,Ar6 Ck hd hG (.inr (List.drop_eq_nil_iff.1 hl))⟩
 |@out a l' N=>
  intro G k i j n l done Ck hd hG hl;rw[Adg hG,q_k];exact⟨1,Ar6 Ck hd hG (.inl rfl)⟩
 |@cons a r l' rs N N1 N2 o1 o2 h Kd ih=>
  intro G k i j n l done Ck hd hG hl;have hx:l[done.length]?=some a:=by have:=congrArg (fun l=>l[0]?) hl;simpa using this
  have Ag:=Dh hx;have hl2:l.drop (done++[r]).length=l':=by
   rw[q_jr,List.length_singleton];have:=congrArg (List.drop 1) hl
   rwa [List.drop_drop] at this
  obtain⟨m,h2⟩:=ih (G:=G.set sid (Ek N1 o1)) (k:=k) (i:=i) (j:=j) (n:=n) (l:=l) (done:=done++[r]) Ck (by simp;omega) (Ex hG) hl2;rw[Ou,q_ju,q_kv] at h2;refine⟨m+1,Bd ?_⟩;unfold NoL at h2;unfold nS at h2 |-;have e0:(0:Int)<=(done.length:Int):=by omega
  have e1:(done.length:Int)<(l.length:Int):=by omega
  have hg:(l.map tv)[done.length]?.getD []=tv a:=by rw[q_ji,hx];rfl
  have e3:(done.length+1)*56<=140737488355328:=by omega
  have e4:done.length+1<=140737488355328:=by omega
  simp only[go_sem,seval,hG,Ek,q_g,e0,e1,Ag,hg,q_jn e1];refine fun _=>Ai (h sid G hG) ?_
  simp only[go_sem,seval,e3,e4,q_g,w64 (show fit ((done.length:Int)+1) by unfold fit;omega)];have eL:(done++[r]).length=done.length+1:=by simp
  have eN:((done.length+1:Nat):Int)=(done.length:Int)+1:=rfl;have eM:(done++[r]).map tv=done.map tv++[tv r]:=by simp
  have e5:(done.map tv).take done.length=done.map tv:=q_js (by simp);simp only[eL,eN,eM,Nat.add_sub_cancel,Ek] at h2;exact Dl (Fp 5 (by simp[Ba]) (by simp[Ek]) (by simp[Cx]) (by simp[gOb])) h2
def Ayz{N N1 N2:Nat}{t:Tm}{k i j n:Int}{l rs:List Tm}{o1 o2:Bool}(h:CHd N t N1 o1 (.mk k i j n l))(hl:CNl l N1 o1 N2 o2 rs)(hN:N<=4000)(Ck:l.length<=100):CN t N N2 o2 (.mk k i j n rs):=by
 intro sid G hG;have h1:=A9g h hG hN;obtain⟨m,h2⟩:=Bdx hl (G:=G.set sid (Ek N1 o1)) (k:=k) (i:=i) (j:=j) (n:=n) (l:=l) (done:=[]) Ck (by simp) (Ex hG) rfl;rw[Ou,q_kn] at h2;refine Bh mixed Tryz.func23 tr23 ?_;simp only[go_sem,seval,Ch];refine Ai h1 ?_;rw[As] at h2 |-;rw[As];simp only[go_sem,seval];unfold NoL nS at h2;exact Cv m (Dl (.trans (.ghost _ 6 5 rfl) (Bk (by simp[Ba]))) h2)
section
variable{B:BT}
def PT.mono{C M M':Nat}{t:Tm}(h:PT C M t)(hm:tsz t<=M'):PT C M' t:=⟨h.pl,h.sf,hm⟩
def Be1(L:Ve B){C:Nat}(hC:C<=60000000):∀(m N:Nat) (t:Tm),4000-N<=m->N<=4000->PT C 4000 t->∃N' o t',PHd B N t N' o t'/\CHd N t N' o t'/\PT C 16000000 t'/\(o=false->tsz t'<=4000/\N'<=4000/\(N'=N->t'=t)):=by
 intro m
 induction m with
 |zero=>
  intro N t hm hN ht;rcases Am6 L hC t ht with⟨u,hs,hc⟩|⟨hn,hc⟩
  ·exact⟨N+1,true,u,.out hs (.inl (by omega)),.far hc (by omega),At1 L.bd hs hC ht,fun h=>by cases h⟩
  ·exact⟨N,false,t,.stop hn,.stop hc,ht.mono (by have:=ht.sz;omega),fun _=>⟨ht.sz,hN,fun _=>rfl⟩⟩
 |succ m ih=>
  intro N t hm hN ht;rcases Am6 L hC t ht with⟨u,hs,hc⟩|⟨hn,hc⟩
  ·have hu:=At1 L.bd hs hC ht
   by_cases hN4:N=4000
   ·exact⟨N+1,true,u,.out hs (.inl (by omega)),.far hc hN4,hu,fun h=>by cases h⟩
   by_cases Bi:tsz u<=4000
   ·obtain⟨N',o,t',h1,h2,h3,h4⟩:=ih (N+1) u (by omega) (by omega) (hu.mono Bi);have hle:=Afc h1;exact⟨N',o,t',.step hs (by omega) Bi h1,.step hc (by omega) (hu.tok (by omega)) Bi h2,h3,fun ho=>⟨(h4 ho).1,(h4 ho).2.1,fun e=>by omega⟩⟩
   ·exact⟨N+1,true,u,.out hs (.inr (by omega)),.big hc (by omega) (hu.tok (by omega)) (by omega),hu,fun h=>by cases h⟩
  ·exact⟨N,false,t,.stop hn,.stop hc,ht.mono (by have:=ht.sz;omega),fun _=>⟨ht.sz,hN,fun _=>rfl⟩⟩
def ms(N:Nat):Nat:=(4000-N)*4001
def Ajv{N N':Nat}(h:N<=N'):ms N'<=ms N:=q_jy _ (by omega)
def Ars{N N':Nat}(h:N<N')(h2:N'<=4000):ms N'+4001<=ms N:=by
 unfold ms;have:(4000-N')+1<=4000-N:=by omega
 have:=q_jy 4001 this;omega
def Alj(B:BT)(t:Tm)(N:Nat):Prop:=∃N2 o2 r,PNx B (.inl t) N false N2 o2 (.inl r)/\CN t N N2 o2 r/\TOk r/\N<=N2/\(o2=false->N2<=4000)
def Bet{M:Nat}(IH:∀(N:Nat) (t:Tm) (C:Nat),ms N+tsz t<M->N<=4000->PT C 4000 t->C+2*(ms N+tsz t)<=60000000->Alj B t N) :
  ∀(l:List Tm) (N:Nat) (o:Bool),(o=false->N<=4000/\∀u∈l,ms N+tsz u<M/\∃C',PT C' 4000 u/\C'+2*(ms N+tsz u)<=60000000) ->
  ∃N2 o2 rs,PNx B (.inr l) N o N2 o2 (.inr rs)/\CNl l N o N2 o2 rs/\(∀r∈rs,TOk r)/\rs.length<=l.length/\N<=N2/\(o2=false->N2<=4000):=by
 intro l
 induction l with
 |nil=>intro N o h;exact⟨N,o,[],.nil,.nil,fun r hr=>(by cases hr),by simp,q_ja _,fun ho=>(h ho).1⟩
 |cons a l ih=>
  intro N o h;cases o with
  |true=>exact⟨N,true,[],.out,.out,fun r hr=>(by cases hr),by simp,q_ja _,fun h=>(by cases h)⟩
  |false=>
   obtain⟨hN,hu⟩:=h rfl;obtain⟨h1,C',h2,h3⟩:=hu a (by simp);obtain⟨N1,o1,r,p1,p2,p3,p4,p5⟩:=IH N a C' h1 hN h2 h3;obtain⟨N2,o2,rs,q1,q2,q3,q4,q5,q6⟩:=ih N1 o1 (fun ho=>⟨p5 ho,fun u Dt=>by
    obtain⟨k1,C2,k2,k3⟩:=hu u (by simp[Dt]);have:=Ajv p4;exact⟨by omega,C2,k2,by omega⟩⟩)
   refine⟨N2,o2,r::rs,.cons p1 q1,.cons p2 q2,fun x hx=>?_,by simp;omega,by omega,q6⟩;rcases q_kb.1 hx with rfl|hx
   ·exact p3
   ·exact q3 x hx
def Asg(L:Ve B):∀(M N:Nat) (t:Tm) (C:Nat),ms N+tsz t<M->N<=4000->PT C 4000 t->C+2*(ms N+tsz t)<=60000000->Alj B t N:=by
 intro M
 induction M with
 |zero=>intro N t C h;omega
 |succ M IH=>
  intro N t C hM hN ht hC;obtain⟨N1,o1,t1,h1,h2,h3,h4⟩:=Be1 L (C:=C) (by omega) 4000 N t (by omega) hN ht;have hle:=Afc h1;have Bi:=ht.sz;cases t1 with
  |mk k i j n l=>
   have Av:l.length<=12:=by
    by_cases h2:k=2
    ·subst h2;obtain⟨q,_,_,_,rfl,_⟩:=h3.sf.vr;simp
    ·have:=kl h3.sf h2;have:=Py k n;omega
   obtain⟨N2,o2,rs,q1,q2,q3,q4,q5,q6⟩:=Bet (M:=M) IH l N1 o1 (fun ho=>by
    obtain⟨g1,g2,g3⟩:=h4 ho;refine⟨g2,fun u hu=>?_⟩;obtain⟨p,hp⟩:=q_jw hu;have hb:=Pg k p;have hk:=Yx (k:=k) (i:=i) (j:=j) (n:=n) hu;have hpt:PT (C+bnd k p) 4000 u:=(h3.mono g1).kidm hp
    by_cases e:N1=N
    ·have:=g3 e;rw[<-this] at hM hC Bi;subst e;exact⟨by omega,_,hpt,by omega⟩
    ·have:=Ars (show N<N1 by omega) g2;exact⟨by omega,_,hpt,by omega⟩)
   have hok:=h3.tok (by omega);obtain⟨f1,f2,f3,f4,hb,Gw⟩:=Ww hok;exact⟨N2,o2,.mk k i j n rs,.tm h1 q1,Ayz h2 q2 hN (by omega),.mk _ _ _ _ _ f1 f2 f3 f4 (by omega) q3,by omega,q6⟩
end
end Go.Proofs.YtgdkddjdhijfnaaGreatDoor.Abs
