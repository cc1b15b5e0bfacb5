import Derived.Test.YtgdkddjdhijfnaaGreatDoorXVc
import Derived.Test.YtgdkddjdhijfnaaGreatDoorXLl
import Derived.Test.YtgdkddjdhijfnaaGreatDoorXEv
import Derived.Test.YtgdkddjdhijfnaaGreatDoorProg
import Derived.KernelRfl
import Derived.Test.YtgdkddjdhijfnaaGreatDoorXYz
set_option linter.all false
set_option maxRecDepth 20000
set_option maxHeartbeats 4000000
namespace Go.Proofs.YtgdkddjdhijfnaaGreatDoor.Abs
open Go Go.RowKit Go.Proofs.YtgdkddjdhijfnaaGreatDoor
def Au4{a:Tm}(h:a.k=14\/a.k=17):9<=wz a+1:=by
 cases a with
 |mk k i j n l=>
  have h':k=14\/k=17:=h;rw[Pb,if_pos h'];omega
def Avy{g C:Nat}{x y:Tm}{k:Int}(hk:k=18\/k=19)(hx:Sf C x)(hy:Sf C y)(h:wz x+wz y+1<=g):alk g (ptT k x) (ptT k y)=alk (g+1) x y:=by
 obtain⟨f,rfl⟩:∃f,g=f+1:=⟨g-1,by omega⟩
 rw[Ko,if_neg (by unfold ptT;simp only[Tm.k];omega),if_neg (by unfold ptT;simp only[Tm.k];omega)];unfold ptT;simp only[Tm.k,Tm.i,Tm.j,Tm.n,Tm.kids,Qo,Xh];rw[Agn f hx hy (by omega) (f+1+1) (by omega)];simp
def Akc{g C:Nat}{x y:Tm}{k:Int}{p:Nat}(hk:k=18\/k=19)(hx:Sf C x)(hy:Sf C y)(h1:x.k≠17)(h2:y.k≠17)(h:wz x+wz y+1<=g):alk g (pt0 k p x) (pt0 k p y)=alk (g+1) x y:=by
 unfold pt0;rw[if_neg h1,if_neg h2];exact Avy hk hx hy h
def Asx{g C:Nat}{x y:Tm}(hx:Sf C x)(hy:Sf C y)(h1:¬(x.k=14\/y.k=14))(h:x.k≠17->y.k≠17->wz x+wz y+1<=g)(ha:alk (g+1) x y=true):alk g (pt0 18 2 x) (pt0 18 2 y)=true/\alk g (pt0 19 3 x) (pt0 19 3 y)=true:=by
 by_cases c:x.k=17\/y.k=17
 ·rw[Akb h1 c,q_jl] at ha;exact ha
 ·have k1:x.k≠17:=fun e=>c (.inl e)
  have k2:y.k≠17:=fun e=>c (.inr e)
  exact⟨by rw[Akc (.inl rfl) hx hy k1 k2 (h k1 k2)];exact ha,by rw[Akc (.inr rfl) hx hy k1 k2 (h k1 k2)];exact ha⟩
def Avu{f:Nat}:∀{l m r:List Tm},(∀(p:Nat) x y z,l[p]?=some x->m[p]?=some y->r[p]?=some z->alk f x y=true->alk f y z=true->alk f x z=true)->Hh f l m=true->Hh f m r=true->Hh f l r=true:=by
 intro l
 induction l with
 |nil=>intro m r _ h1 h2;cases m with
  |nil=>exact h2
  |cons b m=>rw[Vg] at h1;cases h1
 |cons a l ih=>intro m r h h1 h2;cases m with
  |nil=>rw[Ti] at h1;cases h1
  |cons b m=>cases r with
   |nil=>rw[Ti] at h2;cases h2
   |cons c r=>
    rw[Qo,q_jl] at h1 h2 |-;exact⟨h 0 a b c rfl rfl rfl h1.1 h2.1,ih (fun p x y z e1 e2 e3=>h (p+1) x y z (by simpa using e1) (by simpa using e2) (by simpa using e3)) h1.2 h2.2⟩
def Av1:∀(n:Nat) {C:Nat} {a b c:Tm},Sf C a->Sf C b->Sf C c->wz a+wz b+wz c<=n->∀f,n<=f->alk f a b=true->alk f b c=true->alk f a c=true:=by
 intro n
 induction n with
 |zero=>intro C a b c _ _ _ h;have:=Pc a;omega
 |succ n ih=>
  intro C a b c ha hb hc hn f hf h1 h2;obtain⟨g,rfl⟩:∃g,f=g+1:=⟨f-1,by omega⟩
  have p1:=Pc a;have p2:=Pc b;have p3:=Pc c
  by_cases k1:a.k=14\/b.k=14\/c.k=14
  ·have w1:=Qp ha;have w2:=Qp hb;have w3:=Qp hc;have big:∀x:Tm,x.k=14->9<=wz x+1:=fun x h=>Au4 (.inl h)
   have b1:=big a;have b2:=big b;have b3:=big c;rw[<-Acs ha hb (by omega)] at h1;rw[<-Acs hb hc (by omega)] at h2;rw[<-Acs ha hc (by omega)];exact ih (My ha) (My hb) (My hc) (by omega) g (by omega) h1 h2
  have k1a:¬(a.k=14\/b.k=14):=by omega
  have k1b:¬(b.k=14\/c.k=14):=by omega
  have k1c:¬(a.k=14\/c.k=14):=by omega
  by_cases k2:a.k=17\/b.k=17\/c.k=17
  ·have big:∀x:Tm,x.k=17->9<=wz x+1:=fun x h=>Au4 (.inr h)
   have b1:=big a;have b2:=big b;have b3:=big c;obtain⟨q1,q2⟩:=Asx ha hb k1a (by omega) h1;obtain⟨r1,r2⟩:=Asx hb hc k1b (by omega) h2;have u1:=Hf 18 (.inl rfl) 2 a;have u2:=Hf 18 (.inl rfl) 2 b;have u3:=Hf 18 (.inl rfl) 2 c;have v1:=Hf 19 (.inr rfl) 3 a;have v2:=Hf 19 (.inr rfl) 3 b;have v3:=Hf 19 (.inr rfl) 3 c;have s1:=ih (Gf ha 18 2 (.inl ⟨rfl,rfl⟩)) (Gf hb 18 2 (.inl ⟨rfl,rfl⟩)) (Gf hc 18 2 (.inl ⟨rfl,rfl⟩)) (by omega) g (by omega) q1 r1;have s2:=ih (Gf ha 19 3 (.inr ⟨rfl,rfl⟩)) (Gf hb 19 3 (.inr ⟨rfl,rfl⟩)) (Gf hc 19 3 (.inr ⟨rfl,rfl⟩)) (by omega) g (by omega) q2 r2
   by_cases c3:a.k=17\/c.k=17
   ·rw[Akb k1c c3,s1,s2];rfl
   ·rw[<-Akc (p:=2) (.inl rfl) ha hc (by omega) (by omega) (by omega)];exact s1
  rw[Ko,if_neg k1a,if_neg (by omega),q_jl,q_jt] at h1;rw[Ko,if_neg k1b,if_neg (by omega),q_jl,q_jt] at h2;rw[Ko,if_neg k1c,if_neg (by omega),q_jl,q_jt];obtain⟨⟨a1,a2,a3,a4⟩,l1⟩:=h1;obtain⟨⟨c1,c2,c3,c4⟩,l2⟩:=h2;refine⟨⟨a1.trans c1,a2.trans c2,a3.trans c3,a4.trans c4⟩,Avu (fun p x y z hx hy hz=>?_) l1 l2⟩;have e1:=Pa hx;have e2:=Pa hy;have e3:=Pa hz;have d1:=Qa (a:=a);have d2:=Qa (a:=b);have d3:=Qa (a:=c);have sy:=Ss hb p y hy;have sz:=Ss hc p z hz;rw[<-a1] at sy;rw[<-c1,<-a1] at sz;exact ih (Ss ha p x hx) sy sz (by omega) g (by omega)
def Au5{C:Nat}{a b c:Tm}(ha:Sf C a)(hb:Sf C b)(hc:Sf C c)(h1:Alk a b=true)(h2:Alk b c=true):Alk a c=true:=by
 rw[<-Ru ha hb (f:=wz a+wz b+wz c) (by omega)] at h1;rw[<-Ru hb hc (f:=wz a+wz b+wz c) (by omega)] at h2;rw[<-Ru ha hc (f:=wz a+wz b+wz c) (by omega)];exact Av1 _ ha hb hc (q_ja _) _ (q_ja _) h1 h2
open Go Go.Proofs Go.Proofs.YtgdkddjdhijfnaaGreatDoor
def af4:AF:=⟨103,[(.t 8)],(Ab [oP 4 (.box (.t 0)),oP 5 (.box (.t 1)),oP 6 (.box (.t 2)),oP 8 (.mv (cB false))] (.seq (Ab [oP 19 (Ak 5 4),oP 20 (Ak 5 5),oP 21 (Ak 5 6),oP 22 (.bslice 5 [(.t 19),(.t 20),(.t 21)]),oP 23 (.call 8 [(.t 22)]),oP 24 (.un .not (.t 23))] (Ae 24 (Ab [oP 8 (.mv (cB true))] .ret) .skip)) (Ab [oP 26 (Ak 5 4),oP 27 (Ak 5 5),Aa 28 3,oP 29 (.hcall 9 [(.t 26),(.t 27),(.t 28)]),Aa 25 29,oP 30 (.ext (.t 25) 0),oP 31 (.ext (.t 25) 1),Aa 9 30,Aa 10 31] (Ab [oP 33 (Ak 5 5),oP 34 (Ak 5 4),Aa 35 3,oP 36 (.hcall 9 [(.t 33),(.t 34),(.t 35)]),Aa 32 36,oP 37 (.ext (.t 32) 0),oP 38 (.ext (.t 32) 1),Aa 11 37,Aa 12 38] (Ab [oP 40 (Ak 5 5),oP 41 (Ak 5 6),Aa 42 3,oP 43 (.hcall 9 [(.t 40),(.t 41),(.t 42)]),Aa 39 43,oP 44 (.ext (.t 39) 0),oP 45 (.ext (.t 39) 1),Aa 13 44,Aa 14 45] (Ab [oP 47 (Ak 5 4),oP 48 (Ak 5 6),Aa 49 3,oP 50 (.hcall 9 [(.t 47),(.t 48),(.t 49)]),Aa 46 50,oP 51 (.ext (.t 46) 0),oP 52 (.ext (.t 46) 1),Aa 15 51,Aa 16 52] (Ab [oP 54 (Ak 5 4),oP 55 (Ak 5 4),Aa 56 3,oP 57 (.hcall 9 [(.t 54),(.t 55),(.t 56)]),Aa 53 57,oP 58 (.ext (.t 53) 0),oP 59 (.ext (.t 53) 1),Aa 17 58,Aa 18 59] (.seq (Ab [Aa 60 10,oP 61 (Aj 60 0),Aa 62 61,oG 63 62 true 0 (mT 12),oG 64 62 true 0 (Aj 63 0),oP 65 (Az 62 64),Aa 66 65,oG 67 66 true 0 (mT 9),oG 68 66 true 0 (mT 11),oG 69 66 true 0 (.bin 1 .neq (.t 67) (.t 68)),oP 70 (Az 66 69),Aa 71 70,oG 72 71 false 0 (mT 18),oG 73 71 false 0 (Aj 72 0),oG 74 71 false 0 (mT 73),oG 75 74 true 0 (mT 17),oG 76 74 true 0 (.un .not (.t 75)),oG 77 71 false 0 (Az 74 76),oP 78 (Bf 71 77)] (Ae 78 (Ab [oP 8 (.mv (cB false))] .ret) .skip)) (Ab [Aa 79 10,oP 80 (An .neq 79 0),Aa 81 80,oG 82 81 false 0 (mT 14),oG 83 81 false 0 (An .neq 82 0),oP 84 (Bf 81 83),Aa 85 84,oG 86 85 false 0 (mT 16),oG 87 85 false 0 (An .neq 86 0),oP 88 (Bf 85 87),Aa 89 88,oG 90 89 false 0 (mT 9),oG 91 89 false 0 (.un .not (.t 90)),oP 92 (Bf 89 91),Aa 93 92,oG 94 93 false 0 (mT 13),oG 95 93 false 0 (.un .not (.t 94)),oP 96 (Bf 93 95),Aa 97 96,oG 98 97 false 0 (mT 15),oP 99 (Bf 97 98),Aa 100 99,oG 101 100 true 0 (.call 12 []),oP 102 (Az 100 101),Aa 8 102] .ret)))))))))⟩
def tr4:trF Tryz.prog Tryz.f4=some af4:=by kernel_rfl
attribute [go_sem] af4
def ans{v:Bool}{Z:Prop}{o:HOut}(h:o=.ret (.tup [.bool v,.int .i64 0])\/(o=.ret (.tup [.bool false,.int .i64 6])/\Z)):∃(b z:Bool) (e:Int),o=.ret (.tup [.bool b,.int .i64 e])/\(e==0)=z/\(e != 0)=!z/\(z=true->v=b):=by
 rcases h with h|⟨h,_⟩
 ·exact⟨_,true,_,h,rfl,rfl,fun _=>rfl⟩
 ·exact⟨_,false,_,h,rfl,rfl,fun h=>by cases h⟩
def Azd{a b c:Tm}(ta:TOk a)(tb:TOk b)(tc:TOk c)(f:Nat):Con 4 [.agg true (tv a),.agg true (tv b),.agg true (tv c),.float .f64 f] (.bool true):=by
 obtain⟨x,n,o,h1,hx,e1⟩:=Ph plib ta;obtain⟨y,n',o',h2,hy,e2⟩:=Ph plib tb;obtain⟨z,n2,o2,h3,hz,e3⟩:=Ph plib tc;have Cp:=Amz h1 h2 h3;refine Lt mixed Tryz.func4 tr4 (Ajz a b c f) (.bool _) ?_;have h7:=Ch c
 by_cases ho:o=true/\o'=true/\o2=true
 ·obtain⟨rfl,rfl,rfl⟩:=ho;have E1:=e1 rfl;have E2:=e2 rfl;have E3:=e3 rfl;have k1:=fun G:GV=>conv19 ta tb E1 E2 f G
  have k2:=fun G:GV=>conv19 tb ta E2 E1 f G
  have k3:=fun G:GV=>conv19 tb tc E2 E3 f G
  have k4:=fun G:GV=>conv19 ta tc E1 E3 f G
  have k5:=fun G:GV=>conv19 ta ta E1 E1 f G
  have ht:Alk x y=true->Alk y z=true->Alk x z=true:=Au5 E1.sfx E2.sfx E3.sfx;rw[Alh y x] at k2;rw[Yz] at k5;generalize Alk x y=v at *
  generalize Alk y z=v2 at *
  generalize Alk x z=v3 at *
  generalize tv c=u at *
  simp only[go_sem,seval,h7];refine Af Cp ?_;simp only[go_sem,seval,h7];refine Ha (k1 []) trivial (fun r1 G1 k=>?_) (fun u G1 k=>by rcases k with e|⟨e,_⟩<;>cases e);obtain⟨b1,z1,e1,e,x1,y1,p1⟩:=ans k;cases e;simp only[go_sem,seval];refine Ha (k2 G1) trivial (fun r1 G2 k=>?_) (fun u G1 k=>by rcases k with e|⟨e,_⟩<;>cases e);obtain⟨b2,z2,e2,e,x2,y2,p2⟩:=ans k;cases e;simp only[go_sem,seval];refine Ha (k3 G2) trivial (fun r1 G3 k=>?_) (fun u G1 k=>by rcases k with e|⟨e,_⟩<;>cases e);obtain⟨b3,z3,e3,e,x3,y3,p3⟩:=ans k;cases e;simp only[go_sem,seval];refine Ha (k4 G3) trivial (fun r1 G4 k=>?_) (fun u G1 k=>by rcases k with e|⟨e,_⟩<;>cases e);obtain⟨b4,z4,e4,e,x4,y4,p4⟩:=ans k;cases e;simp only[go_sem,seval];refine Ha (k5 G4) trivial (fun r1 G5 k=>?_) (fun u G1 k=>by rcases k with e|⟨e,_⟩<;>cases e);rcases k with e|⟨e,_⟩<;>cases e<;>simp only[go_sem,seval,x1,y1,x2,y2,x3,y3,x4,y4,beq_self_eq_true,bne_self_eq_false]
  all_goals
   cases z1
   ·repeat' first|simp only[go_sem,seval,x1,y1,x2,y2,x3,y3,x4,y4,beq_self_eq_true,bne_self_eq_false]|refine Af Ls ?_
   cases p1 rfl;simp only[go_sem,seval,x1,y1,x2,y2,x3,y3,x4,y4,beq_self_eq_true,bne_self_eq_false];cases z2;rotate_left;cases p2 rfl;rotate_left
   all_goals
    simp only[go_sem,seval,x1,y1,x2,y2,x3,y3,x4,y4,beq_self_eq_true,bne_self_eq_false];cases z3
    ·repeat' first|simp only[go_sem,seval,x1,y1,x2,y2,x3,y3,x4,y4,beq_self_eq_true,bne_self_eq_false]|refine Af Ls ?_
    cases p3 rfl;simp only[go_sem,seval,x1,y1,x2,y2,x3,y3,x4,y4,beq_self_eq_true,bne_self_eq_false];cases z4
    ·repeat' first|simp only[go_sem,seval,x1,y1,x2,y2,x3,y3,x4,y4,beq_self_eq_true,bne_self_eq_false]|refine Af Ls ?_
    cases p4 rfl;simp only[go_sem,seval,x1,y1,x2,y2,x3,y3,x4,y4,beq_self_eq_true,bne_self_eq_false];cases v
    ·repeat' first|simp only[go_sem,seval,x1,y1,x2,y2,x3,y3,x4,y4,beq_self_eq_true,bne_self_eq_false]|refine Af Ls ?_
    simp only[go_sem,seval,x1,y1,x2,y2,x3,y3,x4,y4,beq_self_eq_true,bne_self_eq_false];cases v2
    ·repeat' first|simp only[go_sem,seval,x1,y1,x2,y2,x3,y3,x4,y4,beq_self_eq_true,bne_self_eq_false]|refine Af Ls ?_
    cases ht rfl rfl
    repeat' first|simp only[go_sem,seval,x1,y1,x2,y2,x3,y3,x4,y4,beq_self_eq_true,bne_self_eq_false]|refine Af Ls ?_
 ·have hf:(o && o' && o2)=false:=by cases o<;>cases o'<;>cases o2<;>simp_all
  rw[hf] at Cp;generalize tv c=u at *
  simp only[go_sem,seval,h7];refine Af Cp ?_;simp only[go_sem,seval,h7]
end Go.Proofs.YtgdkddjdhijfnaaGreatDoor.Abs
