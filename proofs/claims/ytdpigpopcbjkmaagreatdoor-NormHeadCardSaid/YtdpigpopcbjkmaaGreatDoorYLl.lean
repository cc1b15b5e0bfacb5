import Derived.Test.YtdpigpopcbjkmaaGreatDoorYVa
import Derived.Test.YtdpigpopcbjkmaaGreatDoorYSh
import Derived.Test.YtdpigpopcbjkmaaGreatDoorYPc
import Derived.Test.YtdpigpopcbjkmaaGreatDoorYAby
import Derived.Handed
set_option linter.unusedSimpArgs false
set_option linter.unusedVariables false
set_option maxRecDepth 20000
set_option maxHeartbeats 4000000
namespace Go.Proofs.YtdpigpopcbjkmaaGreatDoor.Abs
open Go Go.RowKit Go.Proofs.YtdpigpopcbjkmaaGreatDoor
theorem NR.post{B:BT}{d N n:Nat}{T U r:Tm}(h:NR B d T N r)(hr:HR (plD B) n T U):n<=N/\NR B d U (N-n) r:=by
 cases h with
 |fv h=>
  obtain⟨a,b⟩:=Rx h (Ru _) hr;exact⟨a,.fv b⟩
 |@nd _ n1 _ k i j n' l rs Ns h hn h0 hN hrl hk=>
  obtain⟨a,b⟩:=Rx h hn hr;refine⟨by omega,?_⟩;rw[show n1+Ns.sum-n=(n1-n)+Ns.sum by omega];exact .nd b hn h0 hN hrl hk
theorem Bbs{B:BT}{t x:Tm}{n:Nat}(h:PNx B (.inl t) 0 false n false (.inl x)):∃t1 N1,PHd B 0 t N1 false t1/\N1<=n:=by
 cases h with
 |@tm _ t1 _ N1 _ o1 _ _ h hk=>
  obtain rfl:=Afj hk rfl;exact⟨t1,N1,h,Bbt hk⟩
theorem Amp{t x:Tm}{n C M:Nat}(hp:PT C M t)(hn:NR symT.B 0 (Aq [] 0 t) n x)(hC:C<=2000000)(hM:M<=4000)(b:Nat) :
  Con 14 [.agg true (tv t),.float .f64 b] (.tup [.agg true (tv x),.int .i64 0])\/Con 14 [.agg true (tv t),.float .f64 b] (.tup [.agg true (tv zt),.int .i64 6]):=by
 obtain⟨L,h1,h2,h3⟩:=Ahu b;have hd:=Oj t;have hz:=hp.sz;have hc:cap=1099511627776:=rfl;rcases A9d Al3 (hp.tok (by omega)) hp.pl ⟨C,hp.sf,by omega⟩ h2 h1 with⟨N,r,k1,k2⟩|⟨k1,k2⟩
 ·obtain⟨rfl,rfl⟩:=NR.det k1 hn;exact .inl k2
 ·exact .inr k1
theorem A3n{t x:Tm}{n:Nat}(ht:TOk t)(hp:PT 1048576 60 t)(hw:PNx symT.B (.inl t) 0 false n false (.inl x))(b:Nat) :
  (∃t1 m,Con 21 [.agg true (tv t),.float .f64 b] (.tup [.agg true (tv t1),.int .i64 0])/\PT 1048576 4000 t1/\NR symT.B 0 (Aq [] 0 t1) m x) \/
  Con 21 [.agg true (tv t),.float .f64 b] (.tup [.agg true (tv zt),.int .i64 6]):=by
 obtain⟨L,h1,h2,h3⟩:=Ahu b;have hd:=Oj t;have hz:=hp.sz;have hc:cap=1099511627776:=rfl;have hI:=Ak4 (S:=symT) [Br,Cd] t L h1;obtain⟨t1,N1,hh,hN1⟩:=Bbs hw;have hnr:=Amy l7 hw hp.sf;obtain⟨s1,m1,e1,r1,k1⟩:=Afg (d:=0) l7 hh rfl hp.sf;rw[lv_0,lv_0] at r1;obtain⟨_,Hw⟩:=hnr.post r1;obtain⟨hpt,_⟩:=Bax plib.bd hh rfl (by omega) (hp.mono (M':=4000) (by omega)) (by omega);obtain⟨out,G1,c1,p1⟩:=Ajy Al3 hI (id:=4) (g:=.cl t []) rfl ⟨fun u hu=>(by cases hu),⟨1048576,hp.sf,by omega⟩,by simp only[List.length_nil];omega⟩;cases p1 with
 |far x hi mm h=>exact absurd h (by simp)
 |out x hi mm h=>exact .inr (A3r ht hp.pl h2 c1 (kept (K:=[Br,Cd]) x hi rfl) (kept (K:=[Br,Cd]) x hi rfl))
 |@ret _ Γ1 M1 v n1 x1 hi mm hv hn hr hs=>
  have Ha:=mm.seen;have Be:=mm.guess rfl;simp only at Ha;obtain⟨out,G2,c2,p2⟩:=Bgj hv.ok hi (by omega);have hY:unl 0 0 (TV Γ1 v)=t1:=(A3t l7 hp.sf hh (by rw[lv_0];exact hr) hn).1;rw[hY] at p2;cases p2 with
  |far hi2 mm2 h=>omega
  |out hi2 mm2=>exact .inr (A3s ht hp.pl h2 c1 c2 (kept (K:=[Br,Cd]) x1 hi2 rfl) (kept (K:=[Br,Cd]) x1 hi2 rfl))
  |ret hi2 mm2=>exact .inl ⟨t1,_,A3v ht hp.pl h2 c1 c2 (kept (K:=[Br,Cd]) x1 hi2 rfl) (kept (K:=[Br,Cd]) x1 hi2 rfl),hpt,Hw⟩
theorem Aub{t:Tm}(ht:TOk t)(b:Nat):Con 7 [.agg true (tv t),.float .f64 b] (.bool true):=by
 obtain⟨x,n,o,he,hx,hb⟩:=Atv plib ht;refine Al mixed Tryz.func7 tr7 ?_;have h5:=Ae t;have h6:=Ae x;have h7:=Ae zt;have hs:=Avw x hx;cases o with
 |false=>
  generalize tv t=r at *
  generalize tv x=r1 at *
  repeat' first
   |simp (config:={ maxSteps:=2000000 }) only[go_sem,seval,h5,h6]
   |refine Aa (he) ?_
   |rfl
 |true=>
  obtain⟨hp,hw,hz,hn⟩:=hb rfl;have hnr:=Amy l7 hw hp.sf;have q1:=Amp hp hnr (by omega) (by omega) b;rcases A3n ht hp hw b with⟨t1,m1,k1,k2,k3⟩|k1
  ·have q2:=Amp k2 k3 (by omega) (by omega) b;have h8:=Ae t1;generalize tv t=r at *
   generalize tv x=r1 at *
   generalize tv zt=r2 at *
   generalize tv t1=r3 at *
   rcases q1 with h|h<;>rcases q2 with k|k
   ·repeat' first
     |simp (config:={ maxSteps:=2000000 }) only[go_sem,seval,h5,h6,h7,h8]
     |refine Aa (he) ?_
     |refine Aa (k1) ?_
     |refine Aa (h) ?_
     |refine Aa (k) ?_
     |refine Aa (hs) ?_
     |refine Aa (Xf) ?_
     |rfl
   ·repeat' first
     |simp (config:={ maxSteps:=2000000 }) only[go_sem,seval,h5,h6,h7,h8]
     |refine Aa (he) ?_
     |refine Aa (k1) ?_
     |refine Aa (h) ?_
     |refine Aa (k) ?_
     |refine Aa (hs) ?_
     |refine Aa (Xf) ?_
     |rfl
   ·repeat' first
     |simp (config:={ maxSteps:=2000000 }) only[go_sem,seval,h5,h6,h7,h8]
     |refine Aa (he) ?_
     |refine Aa (k1) ?_
     |refine Aa (h) ?_
     |refine Aa (k) ?_
     |refine Aa (hs) ?_
     |refine Aa (Xf) ?_
     |rfl
   ·repeat' first
     |simp (config:={ maxSteps:=2000000 }) only[go_sem,seval,h5,h6,h7,h8]
     |refine Aa (he) ?_
     |refine Aa (k1) ?_
     |refine Aa (h) ?_
     |refine Aa (k) ?_
     |refine Aa (hs) ?_
     |refine Aa (Xf) ?_
     |rfl
  ·generalize tv t=r at *
   generalize tv x=r1 at *
   generalize tv zt=r2 at *
   repeat' first
    |simp (config:={ maxSteps:=2000000 }) only[go_sem,seval,h5,h6,h7]
    |refine Aa (he) ?_
    |refine Aa (k1) ?_
    |refine Aa (Xf) ?_
    |rfl
open Go Go.RowKit
theorem A6j{H:Type}{enc:TypeId×Value->H}{C:Checked}{os:Os}{f:FuncId}{fn:Func}{s:ChangeSpec}{S:List TypeId}{tb:TypeId}{apart Gn handsOn:Bool}{X:World->Array Value->Prop}(hX:∀(w w':World) (args:Array Value),w.heap=w'.heap->X w args->X w' args)(own:ownKnob C.prog.godebug=none)(started:os.Started)(noInit:C.prog.inits.idxOf? f=none)
  (Jw:C.prog.funcs[f]?=some fn) (Aku:s.vars=[])
  (witness:∃(w:World) (tape:Tape) (i:Input),w.os=os/\(w.forCall tape i).Shaped C.prog/\i.vars=[]/\Input.okWide C.prog (w.forCall tape i) .any w.heap.size f i /\
   ((s.pre enc C.prog fn [] apart (w.forCall tape i).memory i.args/\X (w.forCall tape i).memory i.args)/\sizedMet enc C.prog fn (OpenSpec.ofChange s) apart (w.forCall tape i).memory i.args)/\({}:Assume).holds C.prog (lone (Frame.enter C.prog f i.args .normal) [] (w.forCall tape i)))
  (hs:∀ds:List (DataW H),ds.length=fn.params.size->s.fn H ds={ results:=[.lit (.bool true)],args:=ds }) (Ue:fn.resultTypes=#[tb]) (htb:C.prog.underlying tb=some .bool)
  (hS:Vk C.prog S=true) (hpar:∀t∈fn.params.toList,t∈S) (hlaid:laidOutB C.prog=true) (hread:∀t∈fn.params.toList,C.prog.readableRec t=true/\t<C.prog.types.size)
  (law:∀args:List SV,Sv C.prog fn.params.toList args->Contract C.prog f args (.bool true)) :
  ReturnsInHanded {} C os f .any (fun w args=>(s.pre enc C.prog fn [] apart w args/\X w args)/\sizedMet enc C.prog fn (OpenSpec.ofChange s) apart w args) (s.post enc C.prog fn apart Gn handsOn false):=by
 refine returnsInHanded_of_change_and (C:=C) (X:=X) hX own started noInit Jw witness ?_;intro W base args ds gs before Fd hW _ Bm _ _;have hW':=hW;have Ab:∀x∈before,x.block<W.heap.size:=fun x hx=>hW'.lt x hx
 obtain⟨p,q,hA,hV,rfl,Tx,hnd⟩:=hW;rw[Aku] at hV;have hgs:gs=[]/\q=[]:=by
  cases gs with
  |nil=>exact⟨rfl,hV⟩
  |cons g gs=>exact hV.elim
 obtain⟨rfl,rfl⟩:=hgs;have Kc:∀n∈DataW.weightsEach C.prog fn.params.toList ds,n<=reachBytes:=by
  intro n hn;have:=List.all_eq_true.1 Bm n (Bh5 hn);simpa using this
 have Tu:ds.length=fn.params.size:=by
  have:=(trodAll_length hA).2;simpa using this
 obtain⟨xs,a1,a2,a3⟩:=Ap5 hS hpar (fun j t v ht hv=>Fd j t v (by simpa using ht) (by simpa using hv)) Kc hA;have hc:=law xs a1 (Mu W) W args.toList ⟨fun b j v h=>h,fun b h=>h.elim⟩ a2.symm a3;refine Calls.mono hc (fun e W' he=>?_);obtain⟨v,m',rfl,k1,k2,k3,k4,k5,k6,k7,k8,k9⟩:=he;cases k1;have hb:Below W.heap.size W W':=⟨k5,k6,k7,k8,k9⟩
 refine⟨_,rfl,ds,[],p++[],[],p,[],hW',?_,?_,?_,hb.frame _,fun h=>by cases h⟩
 ·rw[List.append_nil,hs ds Tu,Ue];exact⟨[],[],⟨1,by simp[DataW.trod,htb,Value.cells]⟩,rfl,rfl⟩
 ·rw[List.append_nil,hs ds Tu];exact Bgv hlaid hb hread (fun x hx=>Ab x (by simpa using hx)) hA
 ·rw[List.append_nil,hs ds Tu,Aku];rfl
end Go.Proofs.YtdpigpopcbjkmaaGreatDoor.Abs
