import Derived.Test.YtgdkddjdhijfnaaGreatDoorXTm
import Derived.Test.YtgdkddjdhijfnaaGreatDoorXAby
import Derived.Test.YtgdkddjdhijfnaaGreatDoorXFg
import Derived.Test.YtgdkddjdhijfnaaGreatDoorXEv
import Derived.Test.YtgdkddjdhijfnaaGreatDoorProg
import Derived.KernelRfl
import Derived.Test.YtgdkddjdhijfnaaGreatDoorXPc
import Derived.Test.YtgdkddjdhijfnaaGreatDoorXPq
import Derived.Test.YtgdkddjdhijfnaaGreatDoorXYg
import Derived.Test.YtgdkddjdhijfnaaGreatDoorXAfK
import Derived.Test.YtgdkddjdhijfnaaGreatDoorXLl
import Derived.Test.YtgdkddjdhijfnaaGreatDoorXZc
set_option linter.all false
set_option maxRecDepth 20000
set_option maxHeartbeats 4000000
namespace Go.Proofs.YtgdkddjdhijfnaaGreatDoor.Abs
open Go Go.RowKit
namespace Tm
end Tm
section
variable{P:Program}
def Bjq{t e:TypeId}{svs:List SV}(hu:Oc P t=some e)(h:Ic P t svs):∃l,svs=[.dsl (P.cellsOf e) l]/\l.length*P.bytesOf e<=reachBytes/\∀r∈l,Ic P e r:=by
 have Dx:∀d,P.underlying t=some d->(∀e,d≠.slice e)->False:=fun d hd hn=>by
  unfold Oc at hu;rw[hd] at hu;cases d<;>first|(exact hn _ rfl)|(cases hu)
 cases h with
 |int _ _ _ h1=>exact (Dx _ h1 (by simp)).elim
 |bool _ _ h1=>exact (Dx _ h1 (by simp)).elim
 |float _ _ _ h1=>exact (Dx _ h1 (by simp)).elim
 |str _ _ h1=>exact (Dx _ h1 (by simp)).elim
 |struct _ _ _ h1=>exact (Dx _ h1 (by simp)).elim
 |slice _ e' l h1 h2 h3=>
  simp only[Oc,h1,q_b] at hu;subst hu;exact⟨l,rfl,h2,h3⟩
end
section
variable{C:CT}{a b:AC}{Q:AE->St->Prop}{sl:List SV}{hp:List Ob}{s:St}{K:St->Prop}{KD:St->Prop->Prop}{o:Bj}{rest:List Bj}{fps:List (Nat×AOp×St)}{p q:Prop}{id j:Nat}
end
open Go Go.Proofs Go.Proofs.YtgdkddjdhijfnaaGreatDoor
def af13:AF:=⟨60,[(.cell 4 true 5),(.t 5)],(Ab [oP 2 (.box (.t 0)),oP 4 Cb,oP 5 (.mv (cB false))] (.seq (Ab [Aa 9 1,oP 10 (.len false (.t 9)),oP 11 (Aj 10 0),Aa 12 11,oG 13 12 false 0 (Ac 4 2),oG 14 12 false 0 (Ad 13),oG 15 12 false 0 (.len false (.t 14)),oG 16 12 false 0 (Aj 15 0),oP 17 (Bf 12 16)] (Ae 17 (Ab [oP 18 (Ak 5 2),oP 19 (.call 25 [(.t 18)]),oP 20 (.ext (.t 19) 0),oP 21 (.ext (.t 19) 1),oN (Al 5 4 20),Aa 5 21] .ret) .skip)) (Ce [Aa 22 1,oI 23 1 (.iad 1 (.t 22) (cI 0)),oI 24 2 (Ad 23),oI 25 3 (.conv .u64 (.t 24)),oI 26 4 (Ac 4 2),oI 27 5 (Ad 26),oI 28 6 (.len false (.t 27)),oI 29 7 (An .add 28 1),oI 30 8 (.conv .u64 (.t 29)),oI 31 9 (Bb .rem 25 30),oI 32 10 (.conv .i64 (.t 31)),oI 6 11 (mT 32)] (.seq (Ab [Aa 33 6,oP 34 (Ac 4 2),oP 35 (Ad 34),oP 36 (.len false (.t 35)),oP 37 (Bb .eql 33 36)] (Ae 37 (Ab [oP 38 (Ak 5 2),oP 39 (.call 25 [(.t 38)]),oP 40 (.ext (.t 39) 0),oP 41 (.ext (.t 39) 1),oN (Al 5 4 40),Aa 5 41] .ret) .skip)) (Ce [oP 43 (Ac 4 2),⟨(some 44),(Ad 43),none,1,true,[]⟩,oI 45 2 (mT 6),⟨(some 46),(.iad 5 (.t 44) (.t 45)),none,3,true,[]⟩,⟨(some 47),(Ak 5 46),none,4,true,[]⟩,oI 48 5 (mT 1),⟨(some 49),(.slc 1 (.t 48) (some (cI 1)) none),none,6,true,[]⟩,⟨(some 50),(.call 13 [(.t 47),(.t 49)]),none,7,true,[]⟩,oI 42 8 (mT 50),oI 51 9 (.ext (.t 42) 0),oI 52 10 (.ext (.t 42) 1),⟨(some 7),Cb,none,11,false,[1,3,4,6,7]⟩,oJ 12 (Al 5 7 51),oI 8 13 (mT 52)] (.seq (Ab [Aa 53 8,oP 54 (.un .not (.t 53))] (Ae 54 (Ab [oP 55 (Ak 5 2),oN (Al 5 4 55),oP 5 (.mv (cB false))] .ret) .skip)) (Ab [oP 56 (Ak 5 2),Aa 57 6,oP 58 (Ak 5 7),oP 59 (.call 26 [(.t 56),(.t 57),(.t 58)]),oN (Al 5 4 59),oP 5 (.mv (cB true))] .ret)))))))⟩
def tr13:trF Tryz.prog Tryz.f13=some af13:=by kernel_rfl
attribute [go_sem] af13
open Go Go.RowKit Go.Proofs.YtgdkddjdhijfnaaGreatDoor
def Bjs:Tryz.prog.underlying 3=some (.int .i64):=by kernel_rfl
def Awk{x:SV}(h:Rw Tryz.prog 38 x):∃l:List Int,x=.dsl 1 (l.map fun n=>[.int .i64 n])/\(∀n∈l,fit n):=by
 cases h with
 |agg svs h1 _=>have e:Gp Tryz.prog 38=some false:=by kernel_rfl
                rw[e] at h1;cases h1
 |one x _ h2=>
  obtain⟨l,e,_,hl⟩:=Bjq (e:=3) (by kernel_rfl) h2;have e1:Tryz.prog.cellsOf 3=1:=by kernel_rfl
  rw[e1] at e;obtain⟨xs,rfl,hx⟩:=Arq (f:=fun n=>[SV.int .i64 n]) (p:=fit) (l:=l) (fun r hr=>by obtain⟨n,h1,h2⟩:=Acd Bjs (hl r hr);exact⟨n,h2,h1⟩);cases e;exact⟨xs,rfl,hx⟩
def mixedV:Tryz.prog.follows .mixedOrders=true:=by kernel_rfl
def Hn(p:Int)(n:Nat):Nat:=(Int.tmod (IntKind.u64.wrap p) ((n:Int)+1)).toNat
def Aus{n:Int}(h0:0<=n)(h:n<18446744073709551616):IntKind.u64.wrap n=n:=by
 unfold IntKind.wrap;simp only[IntKind.signed,IntKind.bits];simp;omega
def Aut(n:Int):0<=IntKind.u64.wrap n:=by
 unfold IntKind.wrap;simp only[IntKind.signed,IntKind.bits];simp;omega
def Aqw(p:Int)(n:Nat):Hn p n<=n:=by
 unfold Hn;have:=Int.tmod_lt_of_pos (IntKind.u64.wrap p) (b:=(n:Int)+1) (by omega);have:=Int.tmod_nonneg ((n:Int)+1) (Aut p);omega
def Aqv(p:Int){n:Nat}(h:n<=1000000):IntKind.i64.wrap (Int.tmod (IntKind.u64.wrap p) ((n:Int)+1))=(Hn p n:Int):=by
 have:=Int.tmod_lt_of_pos (IntKind.u64.wrap p) (b:=(n:Int)+1) (by omega);have:=Int.tmod_nonneg ((n:Int)+1) (Aut p);unfold Hn;rw[w64 (by unfold fit;omega)];omega
def Iq(l:List Int):GV:=l.map fun n=>[.int .i64 n]
def Ajh(p:Int)(l:List Int):Iq (p::l)=[.int .i64 p]::Iq l:=rfl
def Bh9{t u:Tm}{b:Bool}(h:Contract Tryz.prog 25 [.agg true (tv t)] (.tup [.agg true (tv u),.bool b])) :
  Contract Tryz.prog 13 [.agg true (tv t),.dsl 1 []] (.tup [.agg true (tv u),.bool b]):=by
 refine Au mixedV Tryz.func13 tr13 ?_;simp only[go_sem,seval];refine Af h ?_;simp only[go_sem,seval]
def Bia{k i j n:Int}{u:Tm}{b:Bool}(p:Int)(ps:List Int)(h:Contract Tryz.prog 25 [.agg true (tv (.mk k i j n []))] (.tup [.agg true (tv u),.bool b])) :
  Contract Tryz.prog 13 [.agg true (tv (.mk k i j n [])),.dsl 1 (Iq (p::ps))] (.tup [.agg true (tv u),.bool b]):=by
 rw[As] at h |-;rw[Ajh];have e1:((((Iq ps).length+1:Nat):Int)==0)=false:=beq_eq_false_iff_ne.2 (by omega);refine Au mixedV Tryz.func13 tr13 ?_;simp only[go_sem,seval];intro _;simp only[go_sem,seval,e1];refine Af h ?_;simp only[go_sem,seval]
section
variable{k i j n:Int}{l:List Tm}(p:Int)(ps:List Int)(hl:0<l.length)(hl2:l.length<=1000)
include hl hl2
def Bh8{u:Tm}{b:Bool}(hk:Hn p l.length=l.length)(h:Contract Tryz.prog 25 [.agg true (tv (.mk k i j n l))] (.tup [.agg true (tv u),.bool b])) :
  Contract Tryz.prog 13 [.agg true (tv (.mk k i j n l)),.dsl 1 (Iq (p::ps))] (.tup [.agg true (tv u),.bool b]):=by
 rw[As] at h |-;rw[Ajh];have e1:((((Iq ps).length+1:Nat):Int)==0)=false:=beq_eq_false_iff_ne.2 (by omega);have e2:(((l.length:Nat):Int)==0)=false:=beq_eq_false_iff_ne.2 (by omega);have e3:IntKind.i64.wrap ((l.length:Int)+1)=(l.length:Int)+1:=w64 (by unfold fit;omega);have e4:IntKind.u64.wrap ((l.length:Int)+1)=(l.length:Int)+1:=Aus (by omega) (by omega);have e5:((l.length:Int)+1=0)=False:=eq_false (by omega);have e6:=Aqv p (n:=l.length) (by omega);rw[hk] at e6;have e7:(((l.length:Nat):Int)==((l.length:Nat):Int))=true:=beq_self_eq_true _;refine Au mixedV Tryz.func13 tr13 ?_;simp only[go_sem,seval];intro _;simp only[go_sem,seval,e1,e2,q_g];intros;simp only[go_sem,seval,e3,e4,e5,e6,e7,q_g];refine⟨by omega,fun _ _=>?_⟩;refine Af h ?_;simp only[go_sem,seval]
def Aty{x:Nat}(hx:x<l.length){u:Tm}{b:Bool}{r:Tm}(hk:Hn p l.length=x)
  (h:Contract Tryz.prog 13 [.agg true (tv l[x]),.dsl 1 (Iq ps)] (.tup [.agg true (tv u),.bool b]))
  (hw:b=true->Contract Tryz.prog 26 [.agg true (tv (.mk k i j n l)),.int .i64 x,.agg true (tv u)] (.agg true (tv r))) (hr:b=false->r=.mk k i j n l) :
  Contract Tryz.prog 13 [.agg true (tv (.mk k i j n l)),.dsl 1 (Iq (p::ps))] (.tup [.agg true (tv r),.bool b]):=by
 have hrt:b=false->tv r=tv (.mk k i j n l):=fun e=>by rw[hr e]
 rw[As] at hw hrt |-;rw[Ajh];have e1:((((Iq ps).length+1:Nat):Int)==0)=false:=beq_eq_false_iff_ne.2 (by omega);have e2:(((l.length:Nat):Int)==0)=false:=beq_eq_false_iff_ne.2 (by omega);have e3:IntKind.i64.wrap ((l.length:Int)+1)=(l.length:Int)+1:=w64 (by unfold fit;omega);have e4:IntKind.u64.wrap ((l.length:Int)+1)=(l.length:Int)+1:=Aus (by omega) (by omega);have e5:((l.length:Int)+1=0)=False:=eq_false (by omega);have e6:=Aqv p (n:=l.length) (by omega);rw[hk] at e6;have e7:((x:Int)==((l.length:Nat):Int))=false:=beq_eq_false_iff_ne.2 (by omega);have e8:(0:Int)<(((Iq ps).length+1:Nat):Int):=by omega
 have e9:(0:Int)<=(x:Int):=by omega
 have e10:(x:Int)<(l.length:Int):=by omega
 have e11:(1:Int)<=(((Iq ps).length+1:Nat):Int):=by omega
 have hg:(l.map tv)[x]?.getD []=tv l[x]:=by rw[q_ji,q_f hx];rfl
 refine Au mixedV Tryz.func13 tr13 ?_;simp only[go_sem,seval];intro _;simp only[go_sem,seval,e1,e2,q_g];intros;simp only[go_sem,seval,e3,e4,e5,e6,e7,q_g];refine⟨e8,fun _ _=>?_⟩;simp only[go_sem,seval,e9,e10,hg,hx,q_g];refine⟨e11,?_⟩;rw[q_km];refine Af h ?_;cases b with
 |false=>
  rw[hrt rfl];simp only[go_sem,seval]
 |true=>
  simp only[go_sem,seval];refine Af (hw rfl) ?_;simp only[go_sem,seval]
end
def Tb(B:BT):List Int->Tm->Option Tm
 |[],t=>Bm B t
 |p::ps,t=>if t.kids.length=0 then Bm B t
  else if Hn p t.kids.length=t.kids.length then Bm B t
  else (Tb B ps (Ap t (Hn p t.kids.length))).map (Cd t (Hn p t.kids.length))
section
variable{B:BT}
def Aq6(p:Int){t:Tm}(h2:Hn p t.kids.length≠t.kids.length):Hn p t.kids.length<t.kids.length:=by
 have:=Aqw p t.kids.length;omega
def Atr{C:Nat}{t:Tm}(h:Sf C t)(hk:t.kids.length≠0):t.k≠2:=by
 cases t with
 |mk k i j n l=>
  intro e;have e:k=2:=e;subst e;obtain⟨_,_,_,_,rfl,_⟩:=h.vr;exact hk rfl
def Bic:∀(ps:List Int) {t u:Tm} {C:Nat},Sf C t->Tb B ps t=some u->Par B t u:=by
 intro ps
 induction ps with
 |nil=>intro t u C hs h;exact Ae9 hs h
 |cons p ps ih=>
  intro t u C hs h;unfold Tb at h
  by_cases c:t.kids.length=0
  ·rw[if_pos c] at h;exact Ae9 hs h
  rw[if_neg c] at h
  by_cases c2:Hn p t.kids.length=t.kids.length
  ·rw[if_pos c2] at h;exact Ae9 hs h
  rw[if_neg c2,q_e] at h;obtain⟨v,hv,rfl⟩:=h;have hl:=Aq6 p c2;exact Aj5 hs (Atr hs c) hl (ih (Ho hs hl) hv)
def Asy{C M:Nat}{t:Tm}(h:PT C M t){p:Nat}(hp:p<t.kids.length):PT (C+2) M (Ap t p)/\tsz (Ap t p)+1<=tsz t:=by
 have hb:=Pg t.k p;cases t with
 |mk k i j n l=>
  have hp':p<l.length:=hp;have hq:l[p]?=some (Ap (.mk k i j n l) p):=by
   unfold Ap;rw[show (Tm.mk k i j n l).kids=l from rfl,q_j,q_f hp'];rfl
  have:=h.kidm hq;exact⟨⟨this.pl,Ats this.sf (by have:bnd k p<=2:=hb;omega),this.sz⟩,Yx (Aji hp)⟩
def Bid(hB:BodyP B):∀(ps:List Int) {t u:Tm} {C:Nat},PT C 4000 t->C+2*tsz t<=60000000->Tb B ps t=some u->Cg u=true/\tsz u<=tsz t*4000:=by
 intro ps
 induction ps with
 |nil=>intro t u C hs hC h;exact Afe hB h hs (by omega)
 |cons p ps ih=>
  intro t u C hs hC h;unfold Tb at h
  by_cases c:t.kids.length=0
  ·rw[if_pos c] at h;exact Afe hB h hs (by omega)
  rw[if_neg c] at h
  by_cases c2:Hn p t.kids.length=t.kids.length
  ·rw[if_pos c2] at h;exact Afe hB h hs (by omega)
  rw[if_neg c2,q_e] at h;obtain⟨v,hv,rfl⟩:=h;have hl:=Aq6 p c2;obtain⟨k1,k2⟩:=Asy hs hl;obtain⟨a,b⟩:=ih k1 (by omega) hv;obtain⟨d,e⟩:=Ato hs.pl a hl;exact⟨d,by omega⟩
def A1t(L:Ve B):∀(ps:List Int) {t:Tm} {C:Nat},PT C 4000 t->C+2*tsz t<=60000000->Con 13 [.agg true (tv t),.dsl 1 (Iq ps)] (Mq (Tb B ps t) t):=by
 intro ps
 induction ps with
 |nil=>intro t C hs hC;exact Bh9 (Ag3 L hs (by omega))
 |cons p ps ih=>
  intro t C hs hC;have Ef:=Ag3 L hs (by omega);cases t with
  |mk k i j n l=>
   unfold Tb
   by_cases c:l.length=0
   ·rw[if_pos (show (Tm.mk k i j n l).kids.length=0 from c)];obtain rfl:=q_lb.1 c;exact Bia p ps Ef
   rw[if_neg (show ¬(Tm.mk k i j n l).kids.length=0 from c)];have hl2:l.length<=12:=by
    have h2:=Atr hs.sf c;have:=kl hs.sf h2;have:=Py k n;omega
   by_cases c2:Hn p l.length=l.length
   ·rw[if_pos (show Hn p (Tm.mk k i j n l).kids.length=(Tm.mk k i j n l).kids.length from c2)];exact Bh8 p ps (by omega) (by omega) c2 Ef
   rw[if_neg (show ¬Hn p (Tm.mk k i j n l).kids.length=(Tm.mk k i j n l).kids.length from c2)];have hl:Hn p l.length<l.length:=by have:=Aqw p l.length;omega
   obtain⟨k1,k2⟩:=Asy (p:=Hn p l.length) hs hl;have hx:=ih k1 (by omega);have e:Ap (.mk k i j n l) (Hn p l.length)=l[Hn p l.length]:=by
    unfold Ap;rw[show (Tm.mk k i j n l).kids=l from rfl,q_j,q_f hl];rfl
   show Con _ _ (Mq ((Tb B ps (Ap (.mk k i j n l) (Hn p l.length))).map (Cd (.mk k i j n l) (Hn p l.length))) _);rw[e] at hx |-;cases hv:Tb B ps l[Hn p l.length] with
   |none=>
    rw[hv] at hx;exact Aty p ps (by omega) (by omega) hl rfl hx (fun h=>by cases h) (fun _=>rfl)
   |some v=>
    rw[hv] at hx;exact Aty p ps (by omega) (by omega) hl rfl hx (fun _=>y8 (.mk k i j n l) v (show l.length<=100 by omega) _ (by omega)) (fun h=>by cases h)
end
def Amx{a xa:Tm}{b:Bool}(ha:Con 16 [.agg true (tv a)] (.tup [.agg true (tv xa),.bool b])):Con 8 [.dsl 5 [tv a]] (.bool b):=by
 refine Au mixed Tryz.func8 tr8 ?_;cases b <;>
 repeat' first
  |simp (config:={ maxSteps:=2000000 }) only[go_sem,seval]
  |refine Af (ha) ?_
  |refine Bd ?_
  |refine Cv 6 ?_
  |rfl
def af5:AF:=⟨53,[(.t 6)],(Ab [oP 3 (.box (.t 0)),oP 6 (.mv (cB false))] (.seq (Ab [Aa 11 1,oP 12 (.len false (.t 11)),oP 13 (An .gtr 12 50),Aa 14 13,oG 15 14 false 0 (Ak 5 3),oG 16 14 false 0 (.bslice 5 [(.t 15)]),oG 17 14 false 0 (.call 8 [(.t 16)]),oG 18 14 false 0 (.un .not (.t 17)),oP 19 (Bf 14 18)] (Ae 19 (Ab [oP 6 (.mv (cB true))] .ret) .skip)) (Ab [oP 21 (Ak 5 3),Aa 22 1,oP 23 (.call 13 [(.t 21),(.t 22)]),Aa 20 23,oP 24 (.ext (.t 20) 0),oP 25 (.ext (.t 20) 1),oP 7 Cb,oN (Al 5 7 24),Aa 8 25] (.seq (Ab [Aa 26 8,oP 27 (.un .not (.t 26)),Aa 28 27,oG 29 28 false 0 (Ak 5 7),oG 30 28 false 0 (.bslice 5 [(.t 29)]),oG 31 28 false 0 (.call 8 [(.t 30)]),oG 32 28 false 0 (.un .not (.t 31)),oP 33 (Bf 28 32)] (Ae 33 (Ab [oP 6 (.mv (cB true))] .ret) .skip)) (Ab [oP 35 (Ak 5 3),oP 36 (Ak 5 7),Aa 37 2,oP 38 (.hcall 9 [(.t 35),(.t 36),(.t 37)]),Aa 34 38,oP 39 (.ext (.t 34) 0),oP 40 (.ext (.t 34) 1),Aa 9 39,Aa 10 40] (Ab [Aa 41 10,oP 42 (Aj 41 6),Aa 43 42,oG 44 43 false 0 (mT 10),oG 45 43 false 0 (Aj 44 0),oG 46 43 false 0 (mT 45),oG 47 46 true 0 (mT 9),oG 48 43 false 0 (Az 46 47),oP 49 (Bf 43 48),Aa 50 49,oG 51 50 true 0 (.call 12 []),oP 52 (Az 50 51),Aa 6 52] .ret))))))⟩
def tr5:trF Tryz.prog Tryz.f5=some af5:=by kernel_rfl
attribute [go_sem] af5
def Ar0(t:Tm)(l:List Int)(f:Nat):∀x∈[SV.agg true (tv t),.dsl 1 (Iq l),.float .f64 f],NoG x:=by
 intro x hx;simp only[q_kb,q_kc,or_false] at hx;rcases hx with rfl|rfl|rfl
 ·exact Qd t true
 ·refine .dsl _ _ (fun y hy=>?_);simp only[Iq,List.mem_flatten,q_lc] at hy;obtain⟨r,⟨n,_,rfl⟩,hy⟩:=hy;simp only[q_kb,q_kc,or_false] at hy;subst hy;exact .int _ _
 ·exact .float _ _
section
variable{t x u:Tm}{o:Bool}{l:List Int}{f:Nat}(he:Con 8 [.dsl 5 [tv t]] (.bool o))
include he
def At4(h:50<l.length\/o=false):Con 5 [.agg true (tv t),.dsl 1 (Iq l),.float .f64 f] (.bool true):=by
 refine Lt mixed Tryz.func5 tr5 (Ar0 t l f) (.bool _) ?_;have e:(Iq l).length=l.length:=q_g ..
 by_cases hl:50<l.length
 ·have e1:decide ((l.length:Int) > 50)=true:=q_jn (by omega);simp only[go_sem,seval,e,e1]
 ·obtain rfl:=h.resolve_left hl;have e1:decide ((l.length:Int) > 50)=false:=q_je (by omega);simp only[go_sem,seval,e,e1];intros;refine Af he ?_;simp only[go_sem,seval]
def At3{b b2:Bool}(hl:¬50<l.length)(ho:o=true)(hs:Con 13 [.agg true (tv t),.dsl 1 (Iq l)] (.tup [.agg true (tv u),.bool b]))(h2:Con 8 [.dsl 5 [tv u]] (.bool b2))
  (hc:b=true->b2=true->∀G:GV,Dd 9 G [.agg true (tv t),.agg true (tv u),.float .f64 f] (fun o _=>o=.ret (.tup [.bool true,.int .i64 0])\/o=.ret (.tup [.bool false,.int .i64 6]))) :
  Con 5 [.agg true (tv t),.dsl 1 (Iq l),.float .f64 f] (.bool true):=by
 refine Lt mixed Tryz.func5 tr5 (Ar0 t l f) (.bool _) ?_;have e:(Iq l).length=l.length:=q_g ..;have e1:decide ((l.length:Int) > 50)=false:=q_je (by omega);subst ho;simp only[go_sem,seval,e,e1];intros;refine Af he ?_;simp only[go_sem,seval];refine Af hs ?_;cases b with
 |false=>simp only[go_sem,seval]
 |true=>
  simp only[go_sem,seval];refine Af h2 ?_;cases b2 with
  |false=>simp only[go_sem,seval]
  |true=>
   simp only[go_sem,seval];refine Ha (hc rfl rfl []) trivial (fun r1 G1 k1=>?_) (fun u G1 k1=>by rcases k1 with e|e<;>cases e);rcases k1 with e|e<;>cases e<;>simp only[go_sem,seval] <;>
   refine Af Ls ?_<;>simp only[go_sem,seval]
end
def Azc{t:Tm}(ht:TOk t){l:List Int}(hl:∀n∈l,fit n)(f:Nat):Con 5 [.agg true (tv t),.dsl 1 (l.map fun n=>[.int .i64 n]),.float .f64 f] (.bool true):=by
 show Con _ [.agg true (tv t),.dsl 1 (Iq l),.float .f64 f] _;obtain⟨x,n,o,h1,hx,e1⟩:=Ph plib ht;have ha:=Amx h1;cases o with
 |false=>exact At4 ha (.inr rfl)
 |true=>
  by_cases h50:50<l.length
  ·exact At4 ha (.inl h50)
  have E1:=e1 rfl;have hp:=E1.pt;have Bi:=hp.sz;have Dn:=A1t plib l (hp.mono (M':=4000) (by omega)) (by omega);cases hu:Tb symT.B l t with
  |none=>
   rw[hu] at Dn;exact At3 (u:=t) (b:=false) ha h50 rfl Dn ha (fun h=>by cases h)
  |some u=>
   rw[hu] at Dn;have Ad9:=Bic l hp.sf hu;obtain⟨u1,u2⟩:=Bid plib.bd l (hp.mono (M':=4000) (by omega)) (by omega) hu;have hus:=Ur Na Ad9 hp.sf;have hpu:PT 1048576 400000 u:=⟨u1,hus,by omega⟩
   have tu:=hpu.tok (by omega);obtain⟨y,n',o',h2,hy,e2⟩:=Ph plib tu;refine At3 (u:=u) (b:=true) ha h50 rfl Dn (Amx h2) (fun _ hb G=>?_);have E2:=e2 hb;have hxy:x=y:=(E1.nf.back Na hp.sf (.step Ad9 (.refl _))).one Na hus E2.nf;subst hxy;have:=conv19 ht tu E1 E2 f G;rw[Yz] at this;exact this.mono (fun o G' h=>h.imp id And.left)
end Go.Proofs.YtgdkddjdhijfnaaGreatDoor.Abs
