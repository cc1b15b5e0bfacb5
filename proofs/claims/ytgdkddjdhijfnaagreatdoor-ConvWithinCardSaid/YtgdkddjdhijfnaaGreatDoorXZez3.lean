import Derived.Test.YtgdkddjdhijfnaaGreatDoorXLl
import Derived.Test.YtgdkddjdhijfnaaGreatDoorXEv
import Derived.Test.YtgdkddjdhijfnaaGreatDoorProg
import Derived.KernelRfl
import Derived.Test.YtgdkddjdhijfnaaGreatDoorXYz
set_option linter.all false
set_option maxRecDepth 20000
set_option maxHeartbeats 4000000
namespace Go.Proofs.YtgdkddjdhijfnaaGreatDoor.Abs
open Go Go.Proofs Go.Proofs.YtgdkddjdhijfnaaGreatDoor
def af7:AF:=⟨94,[(.t 8)],(Ab [oP 4 (.box (.t 0)),oP 5 (.box (.t 1)),oP 6 (.box (.t 2)),oP 8 (.mv (cB false))] (.seq (Ab [oP 15 (Ak 5 4),oP 16 (Ak 5 5),oP 17 (Ak 5 6),oP 18 (.bslice 5 [(.t 15),(.t 16),(.t 17)]),oP 19 (.call 8 [(.t 18)]),oP 20 (.un .not (.t 19))] (Ae 20 (Ab [oP 8 (.mv (cB true))] .ret) .skip)) (Ab [oP 22 (Ak 5 4),oP 23 (Ak 5 5),Aa 24 3,oP 25 (.hcall 9 [(.t 22),(.t 23),(.t 24)]),Aa 21 25,oP 26 (.ext (.t 21) 0),oP 27 (.ext (.t 21) 1),Aa 9 26,Aa 10 27] (.seq (Ab [Aa 28 10,oP 29 (An .neq 28 0),Aa 30 29,oG 31 30 false 0 (mT 9),oG 32 30 false 0 (.un .not (.t 31)),oP 33 (Bf 30 32)] (Ae 33 (Ab [Aa 34 10,oP 35 (Aj 34 0),Aa 36 35,oG 37 36 false 0 (mT 10),oG 38 36 false 0 (Aj 37 6),oP 39 (Bf 36 38),Aa 40 39,oG 41 40 true 0 (.call 12 []),oP 42 (Az 40 41),Aa 8 42] .ret) .skip)) (.seq (.cut (.reg [⟨(some 44),(.call 15 [(cI 3)]),none,0,true,[]⟩,⟨(some 45),(Ak 5 4),none,1,false,[0]⟩,⟨(some 46),(.bslice 5 [(.t 44),(.t 45)]),none,2,true,[]⟩,⟨(some 47),(.call 14 [(cI 15),(.t 46)]),none,3,true,[]⟩,⟨(some 48),(.call 15 [(cI 3)]),none,4,true,[]⟩,⟨(some 49),(Ak 5 5),none,5,false,[0,2,3,4]⟩,oI 50 6 (.bslice 5 [(.t 48),(.t 49)]),oI 51 7 (.call 14 [(cI 15),(.t 50)]),oI 52 8 (mT 3)] true) (.cut (Ar [⟨(some 53),(.hcall 9 [(.t 47),(.t 51),(.t 52)]),none,9,false,[9]⟩]) (.reg [oI 43 10 (mT 53),oI 54 11 (.ext (.t 43) 0),oI 55 12 (.ext (.t 43) 1),oI 11 13 (mT 54),oI 12 14 (mT 55)] true))) (.seq (.cut (.reg [⟨(some 57),(Ak 5 4),none,0,true,[]⟩,⟨(some 58),(Ak 5 6),none,1,true,[]⟩,⟨(some 59),(Ak 5 4),none,2,true,[]⟩,⟨(some 60),(.bslice 5 [(.t 57),(.t 58),(.t 59)]),none,3,true,[]⟩,⟨(some 61),(.call 14 [(cI 20),(.t 60)]),none,4,true,[]⟩,⟨(some 62),(Ak 5 5),none,5,false,[3,4]⟩,⟨(some 63),(Ak 5 6),none,6,false,[3,4]⟩,⟨(some 64),(Ak 5 4),none,7,false,[3,4]⟩,⟨(some 65),(.bslice 5 [(.t 62),(.t 63),(.t 64)]),none,8,false,[0,1,2,3,4]⟩,oI 66 9 (.call 14 [(cI 20),(.t 65)]),oI 67 10 (mT 3)] true) (.cut (Ar [⟨(some 68),(.hcall 9 [(.t 61),(.t 66),(.t 67)]),none,11,false,[11]⟩]) (.reg [oI 56 12 (mT 68),oI 69 13 (.ext (.t 56) 0),oI 70 14 (.ext (.t 56) 1),oI 13 15 (mT 69),oI 14 16 (mT 70)] true))) (Ab [Aa 71 12,oP 72 (Aj 71 6),Aa 73 72,oG 74 73 false 0 (mT 12),oG 75 73 false 0 (Aj 74 0),oG 76 73 false 0 (mT 75),oG 77 76 true 0 (mT 11),oG 78 73 false 0 (Az 76 77),oP 79 (Bf 73 78),Aa 80 79,oG 81 80 true 0 (mT 14),oG 82 80 true 0 (Aj 81 6),oG 83 80 true 0 (mT 82),oG 84 83 false 0 (mT 14),oG 85 83 false 0 (Aj 84 0),oG 86 83 false 0 (mT 85),oG 87 86 true 0 (mT 13),oG 88 83 false 0 (Az 86 87),oG 89 80 true 0 (Bf 83 88),oP 90 (Az 80 89),Aa 91 90,oG 92 91 true 0 (.call 12 []),oP 93 (Az 91 92),Aa 8 93] .ret)))))))⟩
def tr7:trF Tryz.prog Tryz.f7=some af7:=by kernel_rfl
attribute [go_sem] af7
open Go Go.RowKit Go.Proofs.YtgdkddjdhijfnaaGreatDoor
def Arw{B:BT}{C:Nat}(hB:Bz B){k i j n:Int}{l rs:List Tm}(hs:Sf C (.mk k i j n l))(h2:k≠2)(hl:rs.length=l.length)(hk:∀(p:Nat) s s',l[p]?=some s->rs[p]?=some s'->Nf B s s')(hp:Bm B (.mk k i j n rs)=none):Nf B (.mk k i j n l) (.mk k i j n rs):=by
 refine⟨Yq hB h2 rs [] l hs hl (fun p s s' h h'=>(hk p s s' h h').1),.mk hp (fun p x hx=>?_)⟩;obtain⟨s,hs⟩:=Vo hl hx;exact (hk p s x hs hx).2
def apW(a:Tm):Tm:=.mk 15 0 0 0 [vT 3,a]
def eqW(a t c:Tm):Tm:=.mk 20 0 0 0 [a,t,c]
section
variable{a b c t x y z w:Tm}{n n' n2:Nat}
def Acq(h:Sf 1048576 a):Sf 1048576 (apW a):=by
 refine .nd 0 0 0 (by decide) (by decide) (by unfold fit;decide) (by kernel_rfl) (fun p t hp=>?_)
 match p,hp with
 |0,hp=>cases hp;exact .var (by omega)
 |1,hp=>cases hp;exact h
def Ac8(h:Sf 1048576 a)(h2:Sf 1048576 t)(h3:Sf 1048576 c):Sf 1048576 (eqW a t c):=by
 refine .nd 0 0 0 (by decide) (by decide) (by unfold fit;decide) (by kernel_rfl) (fun p t hp=>?_)
 match p,hp with
 |0,hp=>cases hp;exact h
 |1,hp=>cases hp;exact h2
 |2,hp=>cases hp;exact h3
def Al9(h:PT 1048576 100 a):PT 1048576 400 (apW a):=by
 have:=h.sz;refine⟨Aff (by rfl) (by simp only[List.all_cons,List.all_nil,h.pl,Us (i:=3) (by decide)];rfl),Acq h.sf,?_⟩;show 1+(1+0+(tsz a+0))<=_;omega
def An7(h:PT 1048576 100 a)(h2:PT 1048576 100 t)(h3:PT 1048576 100 c):PT 1048576 400 (eqW a t c):=by
 have z1:=h.sz;have z2:=h2.sz;have z3:=h3.sz;refine⟨Aff (by rfl) (by simp only[List.all_cons,List.all_nil,h.pl,h2.pl,h3.pl];rfl),Ac8 h.sf h2.sf h3.sf,?_⟩;show 1+(tsz a+(tsz t+(tsz c+0)))<=_;omega
def Al8{B:BT}(hB:Bz B)(h:Sf 1048576 a)(hn:Nf B a x):Nf B (apW a) (apW x):=by
 refine Arw hB (Acq h) (by decide) rfl (fun p s s' h1 h2=>?_) ?_
 ·match p,h1,h2 with
  |0,h1,h2=>cases h1;cases h2;exact⟨.refl _,n7 3⟩
  |1,h1,h2=>cases h1;cases h2;exact hn
 ·rw[Nw rfl,if_neg];show ¬(2:Int)=14;decide
def An6{B:BT}(hB:Bz B)(h:Sf 1048576 a)(h2:Sf 1048576 t)(h3:Sf 1048576 c)(hn:Nf B a x)(Lg:Nf B t z)(j0:Nf B c w):Nf B (eqW a t c) (eqW x z w):=by
 refine Arw hB (Ac8 h h2 h3) (by decide) rfl (fun p s s' h1 h2=>?_) (Gz (by simp[Tm.k]))
 match p,h1,h2 with
 |0,h1,h2=>cases h1;cases h2;exact hn
 |1,h1,h2=>cases h1;cases h2;exact Lg
 |2,h1,h2=>cases h1;cases h2;exact j0
def Awd(hx:Sf 1048576 x)(hy:Sf 1048576 y)(h:Alk x y=true):Alk (apW x) (apW y)=true:=by
 rw[Xb (Acq hx) (Acq hy) (by simp[apW,Tm.k]) (by simp[apW,Tm.k])];simp[apW,Tm.k,Tm.i,Tm.j,Tm.n,Tm.kids,Ji,Yz,h]
def A3s(hx:Sf 1048576 x)(hy:Sf 1048576 y)(hz:Sf 1048576 z)(hw:Sf 1048576 w)(h:Alk x y=true):Alk (eqW x z w) (eqW y z w)=true:=by
 rw[Xb (Ac8 hx hz hw) (Ac8 hy hz hw) (by simp[eqW,Tm.k]) (by simp[eqW,Tm.k])];simp[eqW,Tm.k,Tm.i,Tm.j,Tm.n,Tm.kids,Ji,Yz,h]
end
def Agl:HOut->GV->Prop:=fun o _=>o=.ret (.tup [.bool true,.int .i64 0])\/o=.ret (.tup [.bool false,.int .i64 6])
def Anv{t u x y:Tm}(pt:PT 1048576 400 t)(pu:PT 1048576 400 u)(h1:Nf symT.B t x)(h2:Nf symT.B u y)(h:Alk x y=true)(f:Nat)(G:GV):Dd 9 G [.agg true (tv t),.agg true (tv u),.float .f64 f] Agl:=by
 have d1:=Ks t;have d2:=Ks u;have z1:=pt.sz;have z2:=pu.sz;refine HContractQ.mono (Ag8 (pt.tok (by omega)) (pu.tok (by omega)) pt.pl pu.pl pt.sf pu.sf (by omega) (by omega) h1 h2 f G) fun o G' k=>?_
 rw[h] at k;exact k.imp id And.left
section
variable{a b t:Tm}{f:Nat}
def Bkx{v:Bool}(Cp:Con 8 [.dsl 5 [tv a,tv b,tv t]] (.bool true))(hc:∀G:GV,Dd 9 G [.agg true (tv a),.agg true (tv b),.float .f64 f] (fun o _=>o=.ret (.tup [.bool v,.int .i64 0])\/(o=.ret (.tup [.bool false,.int .i64 6])/\True)))
  (h1:v=true->∀G:GV,Dd 9 G [.agg true (tv (apW a)),.agg true (tv (apW b)),.float .f64 f] Agl) (h2:v=true->∀G:GV,Dd 9 G [.agg true (tv (eqW a t a)),.agg true (tv (eqW b t a)),.float .f64 f] Agl) :
  Con 7 [.agg true (tv a),.agg true (tv b),.agg true (tv t),.float .f64 f] (.bool true):=by
 refine Lt mixed Tryz.func7 tr7 (Ajz a b t f) (.bool _) ?_;have e1:=Ch a;have e2:=Ch b;have e3:=Ch t;have e4:=Ch (vT 3);have v3:Con 15 [.int .i64 3] (.agg true (tv (vT 3))):=Ag7 3;have two:∀r s:List SV,r.length=5->s.length=5->∀q∈[r,s],q.length=5:=fun r s h1 h2 q hq=>by
  simp only[q_kb,q_kc,or_false] at hq;rcases hq with rfl|rfl<;>assumption
 have three:∀r s u:List SV,r.length=5->s.length=5->u.length=5->∀q∈[r,s,u],q.length=5:=fun r s u h1 h2 h3 q hq=>by
  simp only[q_kb,q_kc,or_false] at hq;rcases hq with rfl|rfl|rfl<;>assumption
 have n1:=Zl 15 [tv (vT 3),tv a] (by simp) (two _ _ e4 e1) (by simp);have n2:=Zl 15 [tv (vT 3),tv b] (by simp) (two _ _ e4 e2) (by simp);have n3:=Zl 20 [tv a,tv t,tv a] (by simp) (three _ _ _ e1 e3 e1) (by simp);have n4:=Zl 20 [tv b,tv t,tv a] (by simp) (three _ _ _ e2 e3 e1) (by simp);simp only[apW,eqW,As,q_h,q_i] at h1 h2;generalize tv a=r at *
 generalize tv b=q at *
 generalize tv t=u at *
 simp only[go_sem,seval,e1,e2,e3];refine Af Cp ?_;simp only[go_sem,seval,e1,e2,e3];refine Ha (hc []) trivial (fun r1 G1 k=>?_) (fun u G1 k=>by rcases k with e|⟨e,_⟩<;>cases e);rcases k with e|⟨e,_⟩
 ·cases e;cases v with
  |false=>
   simp only[go_sem,seval,e1,e2,e3];refine Af Ls ?_;simp only[go_sem,seval]
  |true=>
   repeat' first
   |simp only[go_sem,seval,e1,e2,e3,e4]
   |refine Af v3 ?_
   |refine Af n1 ?_
   |refine Af n2 ?_
   refine Ha (h1 rfl G1) trivial (fun r1 G2 k=>?_) (fun u G1 k=>by rcases k with e|e<;>cases e);rcases k with e|e<;>cases e<;>simp only[go_sem,seval,e1,e2,e3,e4] <;>
   refine Af n3 ?_ <;>
   simp only[go_sem,seval,e1,e2,e3,e4] <;>
   refine Af n4 ?_ <;>
   simp only[go_sem,seval,e1,e2,e3,e4] <;>
   refine Ha (h2 rfl G2) trivial (fun r1 G3 k=>?_) (fun u G1 k=>by rcases k with e|e<;>cases e) <;>
   rcases k with e|e<;>cases e<;>simp only[go_sem,seval,e1,e2,e3,e4] <;>
   refine Af Ls ?_ <;>
   simp only[go_sem,seval]
 ·cases e;simp only[go_sem,seval,e1,e2,e3];refine Af Ls ?_;simp only[go_sem,seval]
def Bky(Cp:Con 8 [.dsl 5 [tv a,tv b,tv t]] (.bool false)):Con 7 [.agg true (tv a),.agg true (tv b),.agg true (tv t),.float .f64 f] (.bool true):=by
 refine Lt mixed Tryz.func7 tr7 (Ajz a b t f) (.bool _) ?_;simp only[go_sem,seval];refine Af Cp ?_;simp only[go_sem,seval]
end
def Aze{a b t:Tm}(ta:TOk a)(tb:TOk b)(tt:TOk t)(f:Nat):Con 7 [.agg true (tv a),.agg true (tv b),.agg true (tv t),.float .f64 f] (.bool true):=by
 obtain⟨x,n,o,h1,hx,e1⟩:=Ph plib ta;obtain⟨y,n',o',h2,hy,e2⟩:=Ph plib tb;obtain⟨z,n2,o2,h3,hz,e3⟩:=Ph plib tt;have Cp:=Amz h1 h2 h3
 by_cases ho:o=true/\o'=true/\o2=true
 ·obtain⟨rfl,rfl,rfl⟩:=ho;have E1:=e1 rfl;have E2:=e2 rfl;have E3:=e3 rfl;exact Bkx Cp (fun G=>(conv19 ta tb E1 E2 f G).mono (fun o G' k=>k.imp id (fun k=>⟨k.1,trivial⟩)))
   (fun hv G=>Anv (Al9 E1.pt) (Al9 E2.pt) (Al8 Na E1.pt.sf E1.nf) (Al8 Na E2.pt.sf E2.nf) (Awd E1.sfx E2.sfx hv) f G)
   (fun hv G=>Anv (An7 E1.pt E3.pt E1.pt) (An7 E2.pt E3.pt E1.pt) (An6 Na E1.pt.sf E3.pt.sf E1.pt.sf E1.nf E3.nf E1.nf) (An6 Na E2.pt.sf E3.pt.sf E1.pt.sf E2.nf E3.nf E1.nf) (A3s E1.sfx E2.sfx E3.sfx E1.sfx hv) f G)
 ·have hf:(o && o' && o2)=false:=by cases o<;>cases o'<;>cases o2<;>simp_all
  rw[hf] at Cp;exact Bky Cp
end Go.Proofs.YtgdkddjdhijfnaaGreatDoor.Abs
