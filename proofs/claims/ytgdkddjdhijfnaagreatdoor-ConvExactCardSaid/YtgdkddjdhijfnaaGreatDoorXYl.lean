import Derived.Test.YtgdkddjdhijfnaaGreatDoorXYg
import Derived.Test.YtgdkddjdhijfnaaGreatDoorXDo
import Derived.Test.YtgdkddjdhijfnaaGreatDoorProg
import Derived.Test.YtgdkddjdhijfnaaGreatDoorChecked
import Derived.WalkKit
import Derived.WalkLawsBesides
import Derived.Defers
import Derived.Recover
import Derived.OneCell
import Derived.Test.YtgdkddjdhijfnaaGreatDoorXMb
import Derived.KernelRfl
set_option linter.all false
set_option maxRecDepth 20000
set_option maxHeartbeats 4000000
namespace Go.Proofs.YtgdkddjdhijfnaaGreatDoor.Abs
open Go Go.RowKit Go.Proofs.YtgdkddjdhijfnaaGreatDoor
section
variable{m:Nat}{G G1 G2:GV}{T:HOut->GV->Prop}{D:Int}{x y:Vl}
abbrev Rs(T:HOut->GV->Prop):Bool->GV->Prop:=fun c G4=>T (.ret (.bool c)) G4
def Qi{f:Nat}{args:List SV}{K:Bool->GV->Prop}{P:SV->GV->Prop}(h:Ib f G args T K)(hP:∀c G4,K c G4->P (.bool c) G4):Tk (Bp Tryz.prog fun x G1=>T (.pan x) G1) true f G args True P:=by
 obtain⟨T1,q1,q2,q3⟩:=h;refine Ha q1 trivial (fun r G4 h=>?_) (fun u G4 h=>q3 u G4 h);obtain⟨c,rfl,hc⟩:=q2 r G4 h;exact hP c G4 hc
def Ado(G:GV)(y:Vl)(k:Int):Am 113 G [.int .i64 k,vlV y] (.ret (.gp (G.length+1) 0)) (G++[Eo (some y) none]++[Eo (some ⟨k,0,0,0,0,[G.length]⟩) none]):=by
 refine Bh mixed Tryz.func113 tr113 ?_
 repeat' first
 |simp only[go_sem,seval]
 |refine Ai (Tw _ y) ?_
 |refine Ai (Tw _ ⟨k,0,0,0,0,[G.length]⟩) ?_
def A9u(h:Ib 112 G [.gp m 0,vlV x,vlV y,.int .i64 D,.bool false] T (Rs T)):Dd 96 G [.gp m 0,vlV x,vlV y,.int .i64 D,.bool false] T:=by
 refine Po mixed Tryz.func96 tr96 ?_;simp only[go_sem,seval];refine Qi h fun c G4 k4=>?_
 simp only[go_sem,seval];exact k4
def A9v(hx:x.k≠14)(hx2:x.k≠17)(hy:y.k≠14)(hy2:y.k≠17)(h:Ib 112 G [.gp m 0,vlV x,vlV y,.int .i64 D,.bool true] T (Rs T)):Dd 96 G [.gp m 0,vlV x,vlV y,.int .i64 D,.bool true] T:=by
 refine Po mixed Tryz.func96 tr96 ?_;simp only[go_sem,seval,vlV,Ao hx,Ao hx2,Ao hy,Ao hy2];refine Qi h fun c G4 k4=>?_
 simp only[go_sem,seval];exact k4
def A9w{a b ia ib:Nat}(hx:x.k=14)(hy:y.k=14)(ha:x.kids[1]?=some a)(hb:y.kids[1]?=some b)(Es:fit (D+1))(hu:Am 56 G [.gp a 0,.int .i64 D,.int .i64 1] (.ret (.gp ia 0)) G1)(Dt:Am 56 G1 [.gp b 0,.int .i64 D,.int .i64 1] (.ret (.gp ib 0)) G2)
  (h:Ib 51 G2 [.gp m 0,.gp ia 0,.gp ib 0,.int .i64 (D+1),.bool true] T (Rs T)):Dd 96 G [.gp m 0,vlV x,vlV y,.int .i64 D,.bool true] T:=by
 refine Po mixed Tryz.func96 tr96 ?_;obtain⟨k1,k2,k3,k4⟩:=Gq ha;obtain⟨l1,l2,l3,l4⟩:=Gq hb;have k2':(1:Int)<x.kids.length:=by omega
 have l2':(1:Int)<y.kids.length:=by omega
 repeat' first
 |simp only[go_sem,seval,vlV,hx,hy,k1,k2',k3,k4,l1,l2',l3,l4,q_g,w64 Es]
 |refine Ai hu ?_
 |refine Ai Dt ?_
 refine Qi h fun c G4 k4=>?_
 simp only[go_sem,seval];exact k4
def A9z{a b a' b':Nat}(hx:x.k=17)(hy:y.k=17)(ha:x.kids[2]?=some a)(hb:y.kids[2]?=some b)(Kt:x.kids[3]?=some a')(Dg:y.kids[3]?=some b')
  (h:Ib 51 G [.gp m 0,.gp a 0,.gp b 0,.int .i64 D,.bool true] T fun c G4=>(c=false->T (.ret (.bool false)) G4)/\(c=true->Ib 51 G4 [.gp m 0,.gp a' 0,.gp b' 0,.int .i64 D,.bool true] T (Rs T))):Dd 96 G [.gp m 0,vlV x,vlV y,.int .i64 D,.bool true] T:=by
 refine Po mixed Tryz.func96 tr96 ?_;obtain⟨k1,k2,k3,k4⟩:=Gq ha;obtain⟨l1,l2,l3,l4⟩:=Gq hb;obtain⟨_,m2,m3,m4⟩:=Gq Kt;obtain⟨_,n2,n3,n4⟩:=Gq Dg;have k2':(2:Int)<x.kids.length:=by omega
 have l2':(2:Int)<y.kids.length:=by omega
 have m2':(3:Int)<x.kids.length:=by omega
 have n2':(3:Int)<y.kids.length:=by omega
 simp only[go_sem,seval,vlV,hx,hy,k1,k2',k3,k4,l1,l2',l3,l4,q_g];refine Qi h fun c G4 hc=>?_
 obtain⟨c1,c2⟩:=hc;cases c with
 |false=>
  have:=c1 rfl;simp only[go_sem,seval];exact this
 |true=>
  simp only[go_sem,seval,vlV,hx,hy,k1,l1,m2',m3,m4,n2',n3,n4,q_g];refine Qi (c2 rfl) fun c G5 k5=>?_
  simp only[go_sem,seval];exact k5
def A9x{a ia:Nat}(hx:x.k=14)(hy:y.k≠14)(ha:x.kids[1]?=some a)(Es:fit (D+1))(hu:Am 56 G [.gp a 0,.int .i64 D,.int .i64 1] (.ret (.gp ia 0)) G1)
  (h:Ib 51 (G1++[Eo (some y) none]++[Eo (some ⟨2,0,0,0,D,[]⟩) none]++[Eo (some ⟨15,0,0,0,0,[G1.length,G1.length+1]⟩) none]) [.gp m 0,.gp ia 0,.gp (G1.length+2) 0,.int .i64 (D+1),.bool true] T (Rs T)):Dd 96 G [.gp m 0,vlV x,vlV y,.int .i64 D,.bool true] T:=by
 refine Po mixed Tryz.func96 tr96 ?_;obtain⟨k1,k2,k3,k4⟩:=Gq ha;have k2':(1:Int)<x.kids.length:=by omega
 simp only[go_sem,seval,vlV,hx,Ao hy]
 repeat' first
 |simp only[go_sem,seval,vlV,hx,k1,k2',k3,k4,q_g,w64 Es,show G1.length+1+1=G1.length+2 from rfl]
 |refine Ai hu ?_
 |refine Ai (Tw _ y) ?_
 |refine Ai (Aal _ D) ?_
 |refine Ai (Tw _ ⟨15,0,0,0,0,[G1.length,G1.length+1]⟩) ?_
 refine Qi h fun c G4 k4=>?_
 simp only[go_sem,seval];exact k4
def A9y{b ib:Nat}(hx:x.k≠14)(hy:y.k=14)(hb:y.kids[1]?=some b)(Es:fit (D+1))(hu:Am 56 (G++[Eo (some x) none]++[Eo (some ⟨2,0,0,0,D,[]⟩) none]++[Eo (some ⟨15,0,0,0,0,[G.length,G.length+1]⟩) none]) [.gp b 0,.int .i64 D,.int .i64 1] (.ret (.gp ib 0)) G1)
  (h:Ib 51 G1 [.gp m 0,.gp (G.length+2) 0,.gp ib 0,.int .i64 (D+1),.bool true] T (Rs T)):Dd 96 G [.gp m 0,vlV x,vlV y,.int .i64 D,.bool true] T:=by
 refine Po mixed Tryz.func96 tr96 ?_;obtain⟨k1,k2,k3,k4⟩:=Gq hb;have k2':(1:Int)<y.kids.length:=by omega
 cases hx17:(x.k==17) <;>
 (simp only[go_sem,seval,vlV,hy,Ao hx,hx17]
  refine Ai (Tw _ x) ?_
  repeat' first
  |simp only[go_sem,seval,vlV,hy,k1,k2',k3,k4,q_g,w64 Es,show G.length+1+1=G.length+2 from rfl]
  |refine Ai (Aal _ D) ?_
  |refine Ai (Tw _ ⟨15,0,0,0,0,[G.length,G.length+1]⟩) ?_
  |refine Ai hu ?_
  refine Qi h fun c G4 k4=>?_
  simp only[go_sem,seval];exact k4)
def Baa{a a':Nat}(hx:x.k=17)(hy:y.k≠14)(hy2:y.k≠17)(ha:x.kids[2]?=some a)(Kt:x.kids[3]?=some a')
  (h:Ib 51 (G++[Eo (some y) none]++[Eo (some ⟨18,0,0,0,0,[G.length]⟩) none]) [.gp m 0,.gp a 0,.gp (G.length+1) 0,.int .i64 D,.bool true] T fun c G4=>(c=false->T (.ret (.bool false)) G4)/\(c=true->Ib 51 (G4++[Eo (some y) none]++[Eo (some ⟨19,0,0,0,0,[G4.length]⟩) none]) [.gp m 0,.gp a' 0,.gp (G4.length+1) 0,.int .i64 D,.bool true] T (Rs T))):Dd 96 G [.gp m 0,vlV x,vlV y,.int .i64 D,.bool true] T:=by
 refine Po mixed Tryz.func96 tr96 ?_;obtain⟨k1,k2,k3,k4⟩:=Gq ha;obtain⟨_,m2,m3,m4⟩:=Gq Kt;have k2':(2:Int)<x.kids.length:=by omega
 have m2':(3:Int)<x.kids.length:=by omega
 simp only[go_sem,seval,vlV,hx,Ao hy,Ao hy2,k1,k2',k3,k4,q_g];refine Ai (Ado _ y 18) ?_;simp only[go_sem,seval];refine Qi h fun c G4 hc=>?_
 obtain⟨c1,c2⟩:=hc;cases c with
 |false=>
  have:=c1 rfl;simp only[go_sem,seval];exact this
 |true=>
  simp only[go_sem,seval,vlV,hx,k1,m2',m3,m4,q_g];refine Ai (Ado _ y 19) ?_;simp only[go_sem,seval];refine Qi (c2 rfl) fun c G5 k5=>?_
  simp only[go_sem,seval];exact k5
def Bab{b b':Nat}(hx:x.k≠14)(hx2:x.k≠17)(hy:y.k=17)(hb:y.kids[2]?=some b)(Dg:y.kids[3]?=some b')
  (h:Ib 51 (G++[Eo (some x) none]++[Eo (some ⟨18,0,0,0,0,[G.length]⟩) none]) [.gp m 0,.gp (G.length+1) 0,.gp b 0,.int .i64 D,.bool true] T fun c G4=>(c=false->T (.ret (.bool false)) G4)/\(c=true->Ib 51 (G4++[Eo (some x) none]++[Eo (some ⟨19,0,0,0,0,[G4.length]⟩) none]) [.gp m 0,.gp (G4.length+1) 0,.gp b' 0,.int .i64 D,.bool true] T (Rs T))):Dd 96 G [.gp m 0,vlV x,vlV y,.int .i64 D,.bool true] T:=by
 refine Po mixed Tryz.func96 tr96 ?_;obtain⟨k1,k2,k3,k4⟩:=Gq hb;obtain⟨_,m2,m3,m4⟩:=Gq Dg;have k2':(2:Int)<y.kids.length:=by omega
 have m2':(3:Int)<y.kids.length:=by omega
 simp only[go_sem,seval,vlV,hy,Ao hx,Ao hx2];refine Ai (Ado _ x 18) ?_;simp only[go_sem,seval,vlV,hy,k1,k2',k3,k4,q_g];refine Qi h fun c G4 hc=>?_
 obtain⟨c1,c2⟩:=hc;cases c with
 |false=>
  have:=c1 rfl;simp only[go_sem,seval];exact this
 |true=>
  simp only[go_sem,seval];refine Ai (Ado _ x 19) ?_;simp only[go_sem,seval,vlV,hy,k1,m2',m3,m4,q_g];refine Qi (c2 rfl) fun c G5 k5=>?_
  simp only[go_sem,seval];exact k5
end
section
variable{S:SyT}{m j:Nat}{G G':GV}{Γ Γ1:Gh}{M M1:Mc}{T:HOut->GV->Prop}{d d':Nat}{eta eta':Bool}{X Y X' Y':Tm}{x y:Vl}{out:HOut}
def SmP.conv(h:SmP S m j Γ1 M1 d' eta' X' Y' out G')(x:Gx Γ Γ1)(mm:Mlq M M1)(Ga:M.seen<=M1.seen)(hE:∀b,Eqv S.B d' eta' X' Y' b->Eqv S.B d eta X Y b):SmP S m j Γ M d eta X Y out G':=by
 cases h with
 |ret x1 hi m1 hs h8 he=>exact .ret (x.trans x1) hi (mm.trans m1) (by omega) h8 (hE _ he)
 |out x1 hi m1=>exact .out (x.trans x1) hi (mm.trans m1)
 |far x1 hi m1 hs h8 hg=>exact .far (x.trans x1) hi (mm.trans m1) (by omega) h8 (mm.pos hg)
def KdP.conv{k:Int}{p:Nat}{l l':List Tm}(h:KdP S m j Γ1 M1 d' eta' k p l l' out G')(x:Gx Γ Γ1)(mm:Mlq M M1)(Ga:M.seen<=M1.seen)(hE:∀b,EqvL S.B d' eta' k p l l' b->Eqv S.B d eta X Y b):SmP S m j Γ M d eta X Y out G':=by
 cases h with
 |ret x1 hi m1 hs h8 he=>exact .ret (x.trans x1) hi (mm.trans m1) (by omega) h8 (hE _ he)
 |out x1 hi m1=>exact .out (x.trans x1) hi (mm.trans m1)
 |far x1 hi m1 hs h8 hg=>exact .far (x.trans x1) hi (mm.trans m1) (by omega) h8 (mm.pos hg)
def Yu{f:Nat}{args:List SV}{G1:GV}(h:Dd f G1 args (SmP S m j Γ1 M1 d' eta' X' Y'))(hE:∀out G',SmP S m j Γ1 M1 d' eta' X' Y' out G'->SmP S m j Γ M d eta X Y out G'):Ib f G1 args (SmP S m j Γ M d eta X Y) (Rs (SmP S m j Γ M d eta X Y)):=by
 refine⟨_,h,fun r G3 h3=>?_,fun u G3 h3=>hE _ _ h3⟩;obtain⟨c,rfl⟩:=h3.bool;exact⟨c,rfl,hE _ _ h3⟩
def Aet(hB:Bz S.B){F:Nat}(hS:Xc S m j F)(hI:RInv S m j G Γ M)(h8:M.seen<=8000000)(hF:8000000<=M.seen+F)(hd:d+2<=2*M.seen)(hx:VOK Γ x)(hy:VOK Γ y)(he:eta=true->HN (plD S.B) (TV Γ x)/\HN (plD S.B) (TV Γ y)/\(x.k≠14/\x.k≠17)/\y.k≠14/\y.k≠17) :
  Dd 112 G [.gp m 0,vlV x,vlV y,.int .i64 d,.bool eta] (SmP S m j Γ M d eta (TV Γ x) (TV Γ y)):=by
 by_cases h:s7 x y
 ·refine HContractQ.mono (Bbw hS hI h8 hF hd hx hy h eta) fun out G' hk=>hk.conv (.refl Γ) (.refl M) (q_ja _) fun b hb=>?_
  obtain⟨h1,h2,h3,h4,h5,h6⟩:=h
  by_cases Dj:x.k=2
  ·cases hx with
   |nd Fj=>exact absurd Dj Fj
   |fv l hl=>cases hy with
    |nd Fj=>exact absurd h1.symm Fj
    |fv l' Kd=>
     have:l=l':=h5;subst this;obtain⟨_,⟨hb,_⟩|⟨_,q,_,_,hq,_⟩⟩:=hb
     ·subst hb;exact .refl hB
     ·cases hq
  ·have k2':y.k≠2:=by rw[<-h1];exact Dj
   have h0:x.k≠0:=by
    cases hx with
    |fv=>exact absurd rfl Dj
    |nd _ h0=>exact h0
   have e1:TV Γ y=.mk y.k y.i y.j y.n (Ec Γ x.k 0 y.kids):=by rw[Hp k2',h1]
   have e2:=Hp (Γ:=Γ) Dj;cases eta with
   |false=>exact Eqv.ndF hB (by rw[e1,e2];exact h1) (by rw[e1,e2];exact h2) (by rw[e1,e2];exact h3) (by rw[e1,e2];exact h4) (by rw[e2];exact h0) (by rw[e1,e2];exact hb)
   |true=>
    obtain⟨n1,n2,⟨x1,x2⟩,_⟩:=he rfl;exact Eqv.nd hB n1 n2 (by rw[e1,e2];exact h1) (by rw[e1,e2];exact h2) (by rw[e1,e2];exact h3) (by rw[e1,e2];exact h4) (by rw[e2];exact h0) (by rw[e2];exact x1) (by rw[e2];exact x2) (by rw[e1,e2];exact hb)
 ·refine HContractQ.mono (Bbu hx hy h d eta).q (fun out G' ⟨h1,h2⟩=>?_);subst h1 h2;refine .ret (.refl Γ) hI (.refl M) (q_ja _) h8 ?_;cases eta with
  |false=>exact .no
  |true=>
   obtain⟨n1,n2,⟨x1,x2⟩,y1,y2⟩:=he rfl;have ne:∀{v:Vl} {c:Int},c≠0->v.k≠c->(TV Γ v).k≠c:=fun {v c} hc hv=>by
    by_cases e:v.k=2
    ·unfold TV;rw[if_pos e];unfold fT;exact fun e=>hc e.symm
    ·rw[TV_k e];exact hv
   refine .diff hB n1 n2 (fun _=>⟨⟨ne (by decide) x1,ne (by decide) x2⟩,ne (by decide) y1,ne (by decide) y2⟩) (fun hc=>h ?_);obtain⟨c1,c2,c3,c4⟩:=hc;have hl:=fun a b=>hx.same hy a b
   cases hx with
   |fv l hl=>cases hy with
    |fv l' Kd=>
     have:l=l':=c2;subst this;exact⟨rfl,rfl,rfl,rfl,rfl,rfl⟩
    |nd h2 h0=>rw[Hp (show (Vl.mk _ _ _ _ _ _).k≠2 from h2)] at c1;exact absurd c1.symm h0
   |nd h2 h0=>cases hy with
    |fv l' Kd=>rw[Hp (show (Vl.mk _ _ _ _ _ _).k≠2 from h2)] at c1;exact absurd c1 h0
    |nd Fj Iw=>
     rw[Hp (show (Vl.mk _ _ _ _ _ _).k≠2 from h2),Hp (show (Vl.mk _ _ _ _ _ _).k≠2 from Fj)] at c1 c2 c3 c4;exact⟨c1,c2,c3,c4,rfl,(hl c1 c4).1⟩
def Xe{c:Int}(hc:c≠0)(h:x.k≠c):(TV Γ x).k≠c:=by
 by_cases e:x.k=2
 ·unfold TV;rw[if_pos e];unfold fT;exact fun e=>hc e.symm
 ·rw[TV_k e];exact h
def Aso{k:Int}{t:Tm}(i j n:Int)(l:List Tm)(hk:k=15/\t.k≠14\/(k=18\/k=19)/\t.k≠17):plW (.mk k i j n (t::l))=none:=by
 unfold plW;rw[if_neg,if_neg,if_neg,if_neg]
 ·rintro ⟨h,_⟩;have:k=22:=h;omega
 ·rintro ⟨h,h2⟩;have h:k=19:=h;have h2:t.k=17:=h2;omega
 ·rintro ⟨h,h2⟩;have h:k=18:=h;have h2:t.k=17:=h2;omega
 ·rintro ⟨h,h2⟩;have h:k=15:=h;have h2:t.k=14:=h2;omega
def Ama(hy:WOK Γ y)(h14:y.k≠14){d:Nat}(hd:d<=cap):WOK (Γ++[some (.dn y (TV Γ y))]++[some (.dn ⟨2,0,0,0,d,[]⟩ (fT d))]) ⟨15,0,0,0,0,[Γ.length,Γ.length+1]⟩/\TV (Γ++[some (.dn y (TV Γ y))]++[some (.dn ⟨2,0,0,0,d,[]⟩ (fT d))]) ⟨15,0,0,0,0,[Γ.length,Γ.length+1]⟩=.mk 15 0 0 0 [TV Γ y,fT d]:=by
 have g0:(Γ++[some (.dn y (TV Γ y))]++[some (.dn ⟨2,0,0,0,(d:Int),[]⟩ (fT d))])[Γ.length]?=some (some (Ge.dn y (TV Γ y))):=by simp
 have g1:(Γ++[some (.dn y (TV Γ y))]++[some (.dn ⟨2,0,0,0,(d:Int),[]⟩ (fT d))])[Γ.length+1]?=some (some (Ge.dn ⟨2,0,0,0,(d:Int),[]⟩ (fT d))):=by simp
 have xx:Gx Γ (Γ++[some (.dn y (TV Γ y))]++[some (.dn ⟨2,0,0,0,(d:Int),[]⟩ (fT d))]):=(Gx.app _ _).trans (.app _ _);have b0:bnd 15 0=0:=by decide
 have b1:bnd 15 1=0:=by decide
 have hT:TV (Γ++[some (.dn y (TV Γ y))]++[some (.dn ⟨2,0,0,0,(d:Int),[]⟩ (fT d))]) ⟨15,0,0,0,0,[Γ.length,Γ.length+1]⟩=.mk 15 0 0 0 [TV Γ y,fT d]:=by
  rw[Hp (show (Vl.mk 15 0 0 0 0 [Γ.length,Γ.length+1]).k≠2 from by show (15:Int)≠2;decide)];show Tm.mk 15 0 0 0 [den _ Γ.length (bnd 15 0),den _ (Γ.length+1) (bnd 15 1)]=_;rw[Kr g0,Kr g1];rfl
 refine⟨⟨.nd (by decide) (by decide) (by unfold fit;decide) (by rw[kids15];rfl) (fun p id hp=>?_),.step (y:=y) (p:=0) (id:=Γ.length) (show stk 15=some 0 by decide) rfl (by rw[El xx hy.ok];exact g0) (hy.ok.mono xx) (hy.st.mono xx),?_⟩,hT⟩
 ·match p,hp with
  |0,hp=>cases hp;exact⟨_,g0,by rw[b0];exact⟨rfl,hy.ok.wf⟩⟩
  |1,hp=>cases hp;exact⟨_,g1,by rw[b1];exact⟨rfl,.fv _ _⟩⟩
 ·rw[hT];refine .mk (Aso _ _ _ _ (.inl ⟨rfl,Xe (by decide) h14⟩)) (fun p hp=>?_);have:p=0:=by cases hp;rfl
  subst this;exact hy.hn
def Bf7(hy:WOK Γ y)(h17:y.k≠17){k:Int}(hk:k=18\/k=19):WOK (Γ++[some (.dn y (TV Γ y))]) ⟨k,0,0,0,0,[Γ.length]⟩/\TV (Γ++[some (.dn y (TV Γ y))]) ⟨k,0,0,0,0,[Γ.length]⟩=.mk k 0 0 0 [TV Γ y]:=by
 have g0:(Γ++[some (.dn y (TV Γ y))])[Γ.length]?=some (some (Ge.dn y (TV Γ y))):=by simp
 have xx:Gx Γ (Γ++[some (.dn y (TV Γ y))]):=.app _ _;have b0:bnd k 0=0:=by rcases hk with rfl|rfl<;>decide
 have hs:stk k=some 0:=by rcases hk with rfl|rfl<;>decide
 have hT:TV (Γ++[some (.dn y (TV Γ y))]) ⟨k,0,0,0,0,[Γ.length]⟩=.mk k 0 0 0 [TV Γ y]:=by
  rw[Hp (show (Vl.mk k 0 0 0 0 [Γ.length]).k≠2 from by show k≠2;omega)];show Tm.mk k 0 0 0 [den _ Γ.length (bnd k 0)]=_;rw[Kr g0];rfl
 refine⟨⟨.nd (by omega) (by omega) (by unfold fit;decide) (by rcases hk with rfl|rfl<;>(first|rw[kids18]|rw[kids19])<;>rfl) (fun p id hp=>?_),.step (y:=y) (p:=0) (id:=Γ.length) hs rfl (by rw[El xx hy.ok];exact g0) (hy.ok.mono xx) (hy.st.mono xx),?_⟩,hT⟩
 ·match p,hp with
  |0,hp=>cases hp;exact⟨_,g0,by rw[b0];exact⟨rfl,hy.ok.wf⟩⟩
 ·rw[hT];refine .mk (Aso _ _ _ _ (.inr ⟨hk,Xe (by decide) h17⟩)) (fun p hp=>?_);have:p=0:=by
   have:stk k=some p:=hp;rw[hs] at this;cases this;rfl
  subst this;exact hy.hn
def under1(hI:RInv S m j G Γ M){id:Nat}{g:Ge}(hg:Γ[id]?=some (some g))(ho:g.Ok 1)(hd:d+2<=cap) :
  ∃id' G' Γ' g',Am 56 G [.gp id 0,.int .i64 d,.int .i64 1] (.ret (.gp id' 0)) G'/\Gx Γ Γ'/\RInv S m j G' Γ' M/\Γ'[id']?=some (some g')/\g'.Ok 0/\g'.den 0=Bc (Ea d 1) 0 (g.den 1):=by
 obtain⟨id',G',Γ',g',u,h⟩:=Agb hI hg ho (by omega) hd;cases u with
 |no hb=>cases hb
 |yes _ u=>exact⟨id',G',Γ',g',u,h⟩
def Ags{X:Tm}(h:X.k=14):apL d X=Bc (Ea d 1) 0 (Ap X 1):=by unfold apL;rw[if_pos h]
def Al6{X:Tm}(h:X.k≠14):apL d X=.mk 15 0 0 0 [X,fT d]:=by unfold apL;rw[if_neg h]
def Ws{X:Tm}{k:Int}{p:Nat}(h:X.k=17):ptL k p X=Ap X p:=by unfold ptL;rw[if_pos h]
def Bf5{X:Tm}{k:Int}{p:Nat}(h:X.k≠17):ptL k p X=.mk k 0 0 0 [X]:=by unfold ptL;rw[if_neg h]
def Aj3(hB:Bz S.B)(nx:HN (plD S.B) X)(ny:HN (plD S.B) Y)(x14:X.k≠14)(y14:Y.k≠14)(h17:X.k=17\/Y.k=17){G1:GV}{args:List SV}(hq:Dd 51 G1 args (SmP S m j Γ1 M d true (ptL 18 2 X) (ptL 18 2 Y)))(x01:Gx Γ Γ1)
  (H4:GV->GV) (args':GV->List SV) (h2:∀{G4:GV} {Γ4:Gh} {M4:Mc},RInv S m j G4 Γ4 M4->Gx Γ Γ4->M.seen<=M4.seen->M4.seen<=8000000->∃Γ5,Gx Γ4 Γ5/\Dd 51 (H4 G4) (args' G4) (SmP S m j Γ5 M4 d true (ptL 19 3 X) (ptL 19 3 Y))) :
  Ib 51 G1 args (SmP S m j Γ M d true X Y) fun c G4=>(c=false->SmP S m j Γ M d true X Y (.ret (.bool false)) G4)/\(c=true->Ib 51 (H4 G4) (args' G4) (SmP S m j Γ M d true X Y) (Rs (SmP S m j Γ M d true X Y))):=by
 refine⟨_,hq,fun r G3 h3=>?_,fun u G3 h3=>?_⟩
 ·generalize ho:HOut.ret r=o at h3;cases h3 with
  |out=>cases ho
  |far=>cases ho
  |@ret _ Γ4 M4 c x4 i4 m4 s4 Jl e4=>
   cases ho;refine⟨c,rfl,fun e=>?_,fun e=>?_⟩
   ·subst e;exact .ret (x01.trans x4) i4 m4 s4 Jl (Eqv.pt (b1:=false) (b2:=false) hB nx ny x14 y14 h17 e4 (fun h=>by cases h))
   ·subst e;obtain⟨Γ5,x5,q5⟩:=h2 i4 (x01.trans x4) s4 Jl;exact Yu q5 fun out G' h=>h.conv ((x01.trans x4).trans x5) m4 s4 fun b hb=>by
     have:=Eqv.pt (b1:=true) (b2:=b) hB nx ny x14 y14 h17 e4 (fun _=>hb)
     rwa [q_lf] at this
 ·generalize ho:HOut.pan u=o at h3;cases h3 with
  |ret=>cases ho
  |out x3 hi3 mm3=>cases ho;exact .out (x01.trans x3) hi3 mm3
  |far x3 hi3 mm3 Yl Of Ua=>cases ho;exact .far (x01.trans x3) hi3 mm3 Yl Of Ua
def Afb(hI:RInv S m j G Γ M)(hy:WOK Γ y)(h17:y.k≠17){k:Int}(hk:k=18\/k=19)(p:Nat):∃Γ' g,Gx Γ Γ'/\RInv S m j (G++[Eo (some y) none]++[Eo (some ⟨k,0,0,0,0,[G.length]⟩) none]) Γ' M/\Γ'[G.length+1]?=some (some g)/\g.Ok 0/\g.den 0=ptL k p (TV Γ y):=by
 obtain⟨w,e⟩:=Bf7 hy h17 hk;rw[<-hI.len] at w e;have i2:=(hI.pushDn hy).pushDn w;exact⟨_,.dn ⟨k,0,0,0,0,[G.length]⟩ _,(Gx.app _ _).trans (.app _ _),i2,by rw[hI.len];simp,⟨rfl,w.ok.wf⟩,by rw[Bf5 (Xe (by decide) h17),<-e];rfl⟩
def Bah(hB:Bz S.B){F:Nat}(hS:Xc S m j F):s5 S m j F:=by
 intro G Γ M x y d eta hI h8 hF hd hx hy nx ny;have hc:cap=1099511627776:=rfl;have hfd:fit (d:Int)/\fit ((d:Int)+1):=by unfold fit;omega
 cases eta with
 |false=>exact A9u (Yu (Aet hB hS hI h8 hF hd hx.ok hy.ok (fun h=>by cases h)) fun out G' h=>h)
 |true=>
  have b14:bnd 14 1=1:=by decide
  by_cases x14:x.k=14
  ·obtain⟨a,g,ha,hg,ho,Pr⟩:=hx.ok.kid (p:=1) (by omega) (by rw[x14,kids14];decide);rw[x14,b14] at ho Pr;obtain⟨ia,G1,Γ1,g1,u1,x1,i1,hg1,Hw,e1⟩:=under1 hI hg ho (show d+2<=cap by omega);have tx:(TV Γ x).k=14:=by rw[TV_k (by omega)];exact x14
   have eX:g1.den 0=apL d (TV Γ x):=by rw[Ags tx,e1,Pr]
   by_cases y14:y.k=14
   ·obtain⟨b,g',hb,Fo,ho',Nj⟩:=hy.ok.kid (p:=1) (by omega) (by rw[y14,kids14];decide);rw[y14,b14] at ho' Nj;obtain⟨ib,G2,Γ2,g2,u2,x2,i2,hg2,ho2,e2⟩:=under1 i1 (x1.get Fo) ho' (show d+2<=cap by omega);have ty:(TV Γ y).k=14:=by rw[TV_k (by omega)];exact y14
    have eY:g2.den 0=apL d (TV Γ y):=by rw[Ags ty,e2,Nj]
    have hq:=hS (d:=d+1) (eta:=true) i2 h8 hF (by omega) (x2.get hg1) Hw hg2 ho2;refine A9w x14 y14 ha hb hfd.2 u1 u2 (Yu hq fun out G' h=>h.conv (x1.trans x2) (.refl M) (q_ja _) fun b hb=>?_);rw[eX,eY] at hb;exact hb.ap hB nx ny (.inl tx)
   ·have ty:(TV Γ y).k≠14:=Xe (by decide) y14;have w1:=hy.mono x1;have i2:=i1.pushDn w1;have i3:=i2.pushDn (Ade (d:=d) (by omega));rw[s8] at i3;obtain⟨wa,ea⟩:=Ama w1 y14 (d:=d) (by omega);rw[<-i1.len] at wa ea;have i4:=i3.pushDn wa;have hq:=hS (d:=d+1) (eta:=true) (a:=ia) (b:=G1.length+2) i4 h8 hF (by omega) ((((Gx.app _ _).trans (.app _ _)).trans (.app _ _)).get hg1) Hw (gb:=.dn ⟨15,0,0,0,0,[G1.length,G1.length+1]⟩ _) (by rw[i1.len];simp) ⟨rfl,wa.ok.wf⟩;refine A9x x14 y14 ha hfd.2 u1 (Yu hq fun out G' h=>h.conv (((x1.trans (.app _ _)).trans (.app _ _)).trans (.app _ _)) (.refl M) (q_ja _) fun b hb=>?_);rw[eX] at hb;rw[show Ge.den 0 (.dn ⟨15,0,0,0,0,[G1.length,G1.length+1]⟩ (TV (Γ1++[some (.dn y (TV Γ1 y))]++[some (.dn ⟨2,0,0,0,(d:Int),[]⟩ (fT d))]) ⟨15,0,0,0,0,[G1.length,G1.length+1]⟩))=.mk 15 0 0 0 [TV Γ1 y,fT d] from ea,El x1 hy.ok,<-Al6 ty] at hb;exact hb.ap hB nx ny (.inl tx)
  by_cases y14:y.k=14
  ·obtain⟨b,g,hb,hg,ho,Nj⟩:=hy.ok.kid (p:=1) (by omega) (by rw[y14,kids14];decide);rw[y14,b14] at ho Nj;have ty:(TV Γ y).k=14:=by rw[TV_k (by omega)];exact y14
   have tx:(TV Γ x).k≠14:=Xe (by decide) x14;have i2:=hI.pushDn hx;have i3:=i2.pushDn (Ade (d:=d) (by omega));rw[s8] at i3;obtain⟨wa,ea⟩:=Ama hx x14 (d:=d) (by omega);rw[<-hI.len] at wa ea;have i4:=i3.pushDn wa;have x4:Gx Γ (Γ++[some (.dn x (TV Γ x))]++[some (.dn ⟨2,0,0,0,(d:Int),[]⟩ (fT d))]++[some (.dn ⟨15,0,0,0,0,[G.length,G.length+1]⟩ (TV (Γ++[some (.dn x (TV Γ x))]++[some (.dn ⟨2,0,0,0,(d:Int),[]⟩ (fT d))]) ⟨15,0,0,0,0,[G.length,G.length+1]⟩))]):=((Gx.app _ _).trans (.app _ _)).trans (.app _ _);obtain⟨ib,G5,Γ5,g5,u5,x5,i5,hg5,ho5,e5⟩:=under1 i4 (x4.get hg) ho (show d+2<=cap by omega);have eY:g5.den 0=apL d (TV Γ y):=by rw[Ags ty,e5,Nj]
   have hq:=hS (d:=d+1) (eta:=true) (a:=G.length+2) (b:=ib) i5 h8 hF (by omega) (x5.get (x:=some (.dn ⟨15,0,0,0,0,[G.length,G.length+1]⟩ _)) (by rw[hI.len];simp)) ⟨rfl,wa.ok.wf⟩ hg5 ho5;refine A9y x14 y14 hb hfd.2 u5 (Yu hq fun out G' h=>h.conv (x4.trans x5) (.refl M) (q_ja _) fun b hb=>?_);rw[eY] at hb;rw[show Ge.den 0 (.dn ⟨15,0,0,0,0,[G.length,G.length+1]⟩ (TV (Γ++[some (.dn x (TV Γ x))]++[some (.dn ⟨2,0,0,0,(d:Int),[]⟩ (fT d))]) ⟨15,0,0,0,0,[G.length,G.length+1]⟩))=.mk 15 0 0 0 [TV Γ x,fT d] from ea,<-Al6 tx] at hb;exact hb.ap hB nx ny (.inr ty)
  have tx14:(TV Γ x).k≠14:=Xe (by decide) x14;have ty14:(TV Γ y).k≠14:=Xe (by decide) y14;have b2:bnd 17 2=0:=by decide
  have b3:bnd 17 3=0:=by decide
  by_cases x17:x.k=17
  ·obtain⟨a,g,ha,hg,ho,Pr⟩:=hx.ok.kid (p:=2) (by omega) (by rw[x17,kids17];decide);obtain⟨a',g',Kt,Fo,ho',Aif⟩:=hx.ok.kid (p:=3) (by omega) (by rw[x17,kids17];decide);rw[x17,b2] at ho Pr;rw[x17,b3] at ho' Aif;have tx:(TV Γ x).k=17:=by rw[TV_k (by omega)];exact x17
   by_cases y17:y.k=17
   ·obtain⟨b,f,hb,hf,fo,Nj⟩:=hy.ok.kid (p:=2) (by omega) (by rw[y17,kids17];decide);obtain⟨b',f',Dg,Vx,fo',Aax⟩:=hy.ok.kid (p:=3) (by omega) (by rw[y17,kids17];decide);rw[y17,b2] at fo Nj;rw[y17,b3] at fo' Aax;have ty:(TV Γ y).k=17:=by rw[TV_k (by omega)];exact y17
    have hq:=hS (d:=d) (eta:=true) hI h8 hF (by omega) hg ho hf fo;rw[<-Pr,<-Nj,<-Ws (k:=18) tx,<-Ws (k:=18) ty] at hq;refine A9z x17 y17 ha hb Kt Dg (Aj3 hB nx ny tx14 ty14 (.inl tx) hq (.refl Γ) (fun G4=>G4) (fun G4=>[.gp m 0,.gp a' 0,.gp b' 0,.int .i64 d,.bool true]) (fun {G4 Γ4 M4} i4 x4 s4 Jl=>?_));have Eg:=hS (d:=d) (eta:=true) i4 Jl (by omega) (by omega) (x4.get Fo) ho' (x4.get Vx) fo';rw[<-Aif,<-Aax,<-Ws (k:=19) tx,<-Ws (k:=19) ty] at Eg;exact⟨Γ4,.refl Γ4,Eg⟩
   ·obtain⟨Γ1,f,x1,i1,hf,fo,ef⟩:=Afb hI hy y17 (k:=18) (.inl rfl) 2;have hq:=hS (d:=d) (eta:=true) i1 h8 hF (by omega) (x1.get hg) ho hf fo;rw[<-Pr,<-Ws (k:=18) tx,ef] at hq;refine Baa x17 y14 y17 ha Kt (Aj3 hB nx ny tx14 ty14 (.inl tx) hq x1 (fun G4=>G4++[Eo (some y) none]++[Eo (some ⟨19,0,0,0,0,[G4.length]⟩) none]) (fun G4=>[.gp m 0,.gp a' 0,.gp (G4.length+1) 0,.int .i64 d,.bool true]) (fun {G4 Γ4 M4} i4 x4 s4 Jl=>?_));obtain⟨Γ5,f5,x5,i5,hf5,fo5,ef5⟩:=Afb i4 (hy.mono x4) y17 (k:=19) (.inr rfl) 3;have Eg:=hS (d:=d) (eta:=true) i5 Jl (by omega) (by omega) (x5.get (x4.get Fo)) ho' hf5 fo5;rw[<-Aif,<-Ws (k:=19) tx,ef5,El x4 hy.ok] at Eg;exact⟨Γ5,x5,Eg⟩
  by_cases y17:y.k=17
  ·obtain⟨b,f,hb,hf,fo,Nj⟩:=hy.ok.kid (p:=2) (by omega) (by rw[y17,kids17];decide);obtain⟨b',f',Dg,Vx,fo',Aax⟩:=hy.ok.kid (p:=3) (by omega) (by rw[y17,kids17];decide);rw[y17,b2] at fo Nj;rw[y17,b3] at fo' Aax;have ty:(TV Γ y).k=17:=by rw[TV_k (by omega)];exact y17
   obtain⟨Γ1,g,x1,i1,hg,ho,eg⟩:=Afb hI hx x17 (k:=18) (.inl rfl) 2;have hq:=hS (d:=d) (eta:=true) i1 h8 hF (by omega) hg ho (x1.get hf) fo;rw[<-Nj,<-Ws (k:=18) ty,eg] at hq;refine Bab x14 x17 y17 hb Dg (Aj3 hB nx ny tx14 ty14 (.inr ty) hq x1 (fun G4=>G4++[Eo (some x) none]++[Eo (some ⟨19,0,0,0,0,[G4.length]⟩) none]) (fun G4=>[.gp m 0,.gp (G4.length+1) 0,.gp b' 0,.int .i64 d,.bool true]) (fun {G4 Γ4 M4} i4 x4 s4 Jl=>?_));obtain⟨Γ5,g5,x5,i5,hg5,ho5,eg5⟩:=Afb i4 (hx.mono x4) x17 (k:=19) (.inr rfl) 3;have Eg:=hS (d:=d) (eta:=true) i5 Jl (by omega) (by omega) hg5 ho5 (x5.get (x4.get Vx)) fo';rw[<-Aax,<-Ws (k:=19) ty,eg5,El x4 hx.ok] at Eg;exact⟨Γ5,x5,Eg⟩
  exact A9v x14 x17 y14 y17 (Yu (Aet hB hS hI h8 hF hd hx.ok hy.ok (fun _=>⟨nx,ny,⟨x14,x17⟩,y14,y17⟩)) fun out G' h=>h)
end
open Go Go.RowKit
def Acw(caps:Array Operand):Option (List Nat):=caps.toList.mapM fun|.tmp t=>some t|_=>none
inductive s9(P:Program)(t gf:Nat)(ts:List Nat):Nat->Code->AC->Prop
 |seq (n:Nat) (x y:Code) (ax ay:AC):trC P x=some ax->s9 P t gf ts n y ay->s9 P t gf ts (n+1) (.seq x y) (.seq ax ay)
 |door (id ty1 ty2:Nat) (p1 p2:String) (af1 af2:Array Edge) (caps:Array Operand) (y:Code) (ay:AC):Acw caps=some ts->trC P y=some ay ->
   s9 P t gf ts 0 (.seq (.region id #[{ dst:=some t,op:=.makeFunc (.func gf) #[] caps,type:=ty1,pos:=p1,after:=af1,guard:=none },{ dst:=none,op:=.defer { callee:=.value (.tmp t),args:=#[],argTypes:=#[] },type:=ty2,pos:=p2,after:=af2,guard:=none }] false) y) (.seq (Ahc t) ay)
def Anz:Code->Option (Nat×Nat×List Nat)
 |.region _ ops false=>match ops.toList with
  |[o1,o2]=>match Aju o1,Aha o2 with
   |some (t,gf,caps),some t'=>if t=t' then (Acw caps).map fun ts=>(t,gf,ts) else none
   |_,_=>none
  |_=>none
 |_=>none
def Ab9(P:Program):Code->Option (AC×Nat×Nat×List Nat×Nat)
 |.seq x y=>
  match Anz x with
  |some (t,gf,ts)=>(trC P y).map fun ay=>(.seq (Ahc t) ay,t,gf,ts,0)
  |none=>match trC P x with
   |some ax=>(Ab9 P y).map fun r=>(.seq ax r.1,r.2.1,r.2.2.1,r.2.2.2.1,r.2.2.2.2+1)
   |none=>none
 |_=>none
def Bjb{P:Program}:∀{c:Code} {ac:AC} {t gf n:Nat} {ts:List Nat},Ab9 P c=some (ac,t,gf,ts,n)->s9 P t gf ts n c ac:=by
 intro c
 induction c with
 |seq x y _ ih=>
  intro ac t gf n ts h;simp only[Ab9] at h;split at h
  ·rename_i t' gf' ts' hd;simp only[q_e,Prod.mk.injEq] at h;obtain⟨ay,hy,rfl,rfl,rfl,rfl,rfl⟩:=h;unfold Anz at hd;split at hd;rotate_left
   ·cases hd
   rename_i _ ops _;split at hd;rotate_left
   ·cases hd
   rename_i o1 o2 Fz;split at hd;rotate_left
   ·cases hd
   rename_i t1 gf1 caps t2 h1 h2;split at hd;rotate_left
   ·cases hd
   rename_i htt;subst htt;simp only[q_e,Prod.mk.injEq] at hd;obtain⟨ts1,Li,rfl,rfl,rfl⟩:=hd;have he:ops=#[o1,o2]:=by rw[<-Array.toArray_toList (xs:=ops),Fz]
   rw[he,Bcv h1,A2v h2];exact .door _ _ _ _ _ _ _ _ _ _ Li hy
  ·split at h;rotate_left
   ·cases h
   rename_i ax hx;simp only[q_e,Prod.mk.injEq] at h;obtain⟨⟨ay,t1,gf1,ts1,n1⟩,hy,rfl,rfl,rfl,rfl,rfl⟩:=h;exact .seq _ _ _ _ _ hx (ih hy)
 |_=>intro ac t gf n ts h;simp[Ab9] at h
def Ab8(P:Program)(fn:Func):Option (AF×Nat×Nat×List Nat×Nat):=
 match fn.body with
 |some c=>match trR P fn.results.toList with
  |some ars=>(Ab9 P c).map fun r=>({ ntmps:=fn.ntmps,res:=ars,body:=r.1 },r.2)
  |none=>none
 |none=>none
def vcS(C:CT)(T:List (Nat×SV)):AC->(AE->St->Prop)->St->Prop
 |.skip,Q,s=>Q .normal s
 |.ret,Q,s=>Q .ret s
 |.reg ops dr,Q,s=>(∀p∈T,s.sl.getD p.1 .undef=p.2)/\(if dr then Gr C ops s [] True (Q .normal) else Fc C ops s (Q .normal))
 |.seq a b,Q,s=>vcS C T a (fun e s'=>match e with|.normal=>vcS C T b Q s'|e=>Q e s') s
 |.cut a b,Q,s=>vcS C T a (fun e s'=>match e with|.normal=>vcS C T b Q s'|e=>Q e s') s
 |_,_,_=>False
def noW(T:List (Nat×SV)):AC->Prop
 |.reg ops _=>∀p∈T,∀o∈ops,o.d≠some p.1
 |.seq a b=>noW T a/\noW T b
 |.cut a b=>noW T a/\noW T b
 |_=>True
section
variable{P:Program}{w0:World}{own:Nat->Prop}{M0:Mem}{B:Env->Prop}{Df:List Deferred}{X:SV->GV->Prop}{T:List (Nat×SV)}
def Bdr{m:List Nat}{n:Nat}:∀{r acc:List Bj} {k:Nat},noW T (Kn P m n r k acc)->∀p∈T,∀o∈acc++r,o.d≠some p.1:=by
 intro r
 induction r with
 |nil=>intro acc k h p hp o ho;rw[Kn] at h;rw[q_k] at ho;exact h p hp o ho
 |cons x r ih=>
  intro acc k h p hp o ho;rw[Kn] at h;split at h
  ·obtain⟨h1,h2,h3⟩:=h;rcases q_ke.1 ho with ho|ho
   ·exact h1 p hp o ho
   ·rcases q_kb.1 ho with rfl|ho
    ·exact h2 p hp _ (List.mem_singleton_self _)
    ·exact ih h3 p hp o ho
  ·exact ih h p hp o (by simpa using ho)
def Bhr[hB:Nonempty (StB B)]{ops:Array Oper}{Q:Exit->Act->World->Prop}{l:List Bj}(hX:PXK w0 own M0 Df (KT T) X Q)(Sb:∀p∈T,∀ao∈l,ao.d≠some p.1)(hok:Js ops l=true)(Fz:∀(k:Nat) a,l[k]?=some a->∃o a0,ops[k]?=some o/\Qj P ops o=some a0/\a.op=a0.op/\a.d=a0.d/\a.g=a0.g/\a.id=k){QA:AE->St->Prop}(hQ:∀e E g s a w,SR w0 own M0 B Df E g s a w->QA e s->Q e.ex a w) :
  ∀(r acc:List Bj) (b0 k:Nat),l.drop b0=acc++r->k=b0+acc.length->b0<=l.length->∀(fuel:Nat) (listed:Array Bool) (E:Env) (g:Option (GV)) (s:St) (a:Act) (w:World),listed.size=ops.size->(List.range ops.size).countP (fun k=>!listed.getD k false)<=fuel->(∀k,listed.getD k false=decide (k<b0))->SR w0 own M0 B Df E g s a w ->
  vcS (Bp P X) T (Kn P (Mp ops.toList []) ops.size r k acc) QA s->wpAny P .any ops Q fuel listed a w:=by
 have Av:=Abr hok;intro r
 induction r with
 |nil=>
  intro acc b0 k hl hk hb fuel listed E g s a w Bi hc Ee hS h;rw[Kn] at h;simp only[vcS,if_true] at h;obtain⟨Tr,h⟩:=h;rw[q_k] at hl;have Ck:=congrArg List.length hl;rw[q_kh] at Ck;refine Afw (T:=T) hX Tr Sb hok Fz (rest:=[]) (by rw[hl,q_k]) hb (fun L hd j hj hs=>by omega) (fun fuel listed E g s a w Bi hc Ee hS hk=>Al2 hok Bi (fun k hk=>by rw[Ee];exact q_jn (by omega)) (hQ .normal E g s a w hS hk)) Bi hc Ee hS h
 |cons o r ih=>
  intro acc b0 k hl hk hb fuel listed E g s a w Bi hc Ee hS h;rw[Kn] at h;split at h
  ·rename_i Sg;simp only[q_jl] at Sg;obtain⟨_,Ki,hw2⟩:=Sg;have Ck:=congrArg List.length hl;rw[q_kh,q_jr,q_jk] at Ck;have ha:l[b0+acc.length]?=some o:=by
    have:(l.drop b0)[acc.length]?=l[b0+acc.length]?:=by rw[q_kl]
    rw[<-this,hl,q_jj (q_ja _),Nat.sub_self];rfl
   have hl2:l.drop (b0+acc.length+1)=[]++r:=by
    rw[show b0+acc.length+1=b0+(acc.length+1) by omega,<-List.drop_drop,hl,<-List.drop_drop,List.drop_left];rfl
   subst hk;simp only[vcS,if_true,q_la,if_false] at h;obtain⟨Tr,h⟩:=h;refine Afw (T:=T) hX Tr Sb hok Fz hl hb (Age hok Ki) (fun fuel listed E g s a w Bi hc Ee hS h=>?_) Bi hc Ee hS h;obtain⟨Tr,h⟩:=h;refine Asa (T:=T) hX Tr Sb hok Fz ha (Age hok hw2) (fun fuel listed E g s a w Bi hc Ee hS h=>?_) Bi hc Ee hS h;exact ih [] (b0+acc.length+1) _ hl2 (by simp) (by omega) fuel listed E g s a w Bi hc Ee hS h
  ·exact ih (acc++[o]) b0 (k+1) (by rw[hl,q_ju];rfl) (by simp;omega) hb fuel listed E g s a w Bi hc Ee hS h
def Bkf[hB:Nonempty (StB B)](hm:P.follows .mixedOrders=true):∀(c:Code) (ac:AC),trC P c=some ac->noW T ac->∀{QA:AE->St->Prop} {Q:Exit->Act->World->Prop},PXK w0 own M0 Df (KT T) X Q->(∀e E g s a w,SR w0 own M0 B Df E g s a w->QA e s->Q e.ex a w) ->
  ∀(E:Env) (g:Option (GV)) (s:St) (a:Act) (w:World),SR w0 own M0 B Df E g s a w->vcS (Bp P X) T ac QA s->c.wp P Q a w:=by
 intro c
 induction c with
 |skip=>intro ac tr _ QA Q hX hQ E g s a w hS h;simp only[trC,q_b] at tr;subst tr;exact wp_skip (hQ .normal E g s a w hS h)
 |ret=>intro ac tr _ QA Q hX hQ E g s a w hS h;simp only[trC,q_b] at tr;subst tr;exact wp_ret (hQ .ret E g s a w hS h)
 |region id ops draw=>
  intro ac tr hn QA Q hX hQ E g s a w hS h;simp only[trC,q_c,q_a] at tr;obtain⟨l,hl,tr⟩:=tr;cases draw with
  |true=>
   simp only[if_true] at tr;split at tr;rotate_left
   ·cases tr
   rename_i hok;cases tr;have Fz:∀(k:Nat) a,(t8 (Mp ops.toList []) l)[k]?=some a->∃o a0,ops[k]?=some o/\Qj P ops o=some a0/\a.op=a0.op/\a.d=a0.d/\a.g=a0.g/\a.id=k:=by
    intro k a ha;obtain⟨a0,h1,h2,h3,h4,h5⟩:=Al1 ha;obtain⟨o,g1,g2⟩:=(Aul hl).2 k a0 h1;exact⟨o,a0,by simpa using g1,g2,h2,h3,h4,h5⟩
   have Sk:∀k,(Array.replicate ops.size false).getD k false=decide (k<0):=fun k=>by
    rcases q_jo k ops.size with h|h<;>simp[h]
   have Sb:=Bdr hn;rw[q_kn] at Sb;exact wp_region_any hm (Bhr hX Sb hok Fz hQ _ [] 0 0 rfl rfl (Nat.zero_le _) ops.size (Array.replicate ops.size false) E g s a _ (by simp) (q_kp (List.countP_le_length) (by simp)) Sk ⟨hS.wo.drew,hS.gx.drew,hS.hp,hS.len,hS.sl,hS.dfr,hS.z,hS.le,hS.d,hS.hb⟩ h)
  |false=>
   simp only[q_la,if_false] at tr;cases tr;simp only[vcS,q_la,if_false] at h;refine wp_region ?_;rw[List.range_eq_range',<-Array.length_toList];exact Asd (TT:=T) hX (fun E g s a w hS hk=>hQ .normal E g s a w hS hk) ops.toList l 0 E g s a w hl (fun j o hj=>by simpa using hj) hS (fun p hp=>by have:=hS.sl p.1;rw[h.1 p hp] at this;exact this) hn h.2
 |seq x y ihx ihy=>
  intro ac tr hn QA Q hX hQ E g s a w hS h;simp only[trC,q_c,q_a,q_d,q_b] at tr;obtain⟨ax,Aq,ay,Dr,rfl⟩:=tr;simp only[vcS] at h;refine wp_seq (ihx ax Aq hn.1 (Q:=Exit.then (y.wp P Q) Q) (fun E u x G' a w h1 h2 h3 h4 h5 h6 h7 h8 old ho=>hX E u x G' a w h1 h2 h3 h4 h5 h6 h7 h8 old ho) (fun e E g s a w hS he=>?_) E g s a w hS h);cases e with
  |normal=>exact ihy ay Dr hn.2 hX hQ E g s a w hS he
  |exit id=>exact hQ (.exit id) E g s a w hS he
  |ret=>exact hQ .ret E g s a w hS he
 |_=>
  intro ac tr _ QA Q hX hQ E g s a w hS h;simp[trC,q_a] at tr
  try (first
   |(obtain⟨_,_,_,_,_,_,rfl⟩:=tr;exact h.elim)
   |(obtain⟨_,_,rfl⟩:=tr;exact h.elim)
   |(subst tr;exact h.elim))
def Axm{caps:Array Operand}{ts:List Nat}(h:Acw caps=some ts)(a:Act):caps.map a.eval=(ts.map fun t=>a.tmps.getD t undef).toArray:=by
 obtain⟨l⟩:=caps;unfold Acw at h;simp only at h
 induction l generalizing ts with
 |nil=>simp at h;subst h;simp
 |cons o l ih=>
  rw[List.mapM_cons] at h;cases o with
  |tmp t=>
   simp only[q_d,q_c,Option.bind_some,q_a,q_b] at h;obtain⟨ts',h1,rfl⟩:=h;have:=ih h1;simp only[List.map_toArray,q_h] at this |-;rw[Array.mk.injEq] at this;rw[this];rfl
  |_=>simp at h
section
variable{P:Program}{w0:World}{own:Nat->Prop}{M0:Mem}{B:Env->Prop}{Df:List Deferred}{g:Option (GV)}{E:Env}{s:St}{a:Act}{w:World}
def SR.reb[hB:Nonempty (StB B)](h:SR w0 own M0 B Df E g s a w):SR w0 own E.m B Df { E with m0:=E.m } g s a w:=by
 have hW:=h.wo;refine⟨⟨hW.os,hW.tape,hW.output,hW.size,hW.block,hW.mem,fun o ob ho=>?_,hW.inj,fun _ _ _ _=>rfl,hW.pl⟩,?_,h.hp,h.len,fun i=>(h.sl i).re,h.dfr,rfl,.refl _,fun _=>rfl,fun hs=>hB.elim fun k=>k.wk E { E with m0:=E.m } (fun _ _ h _=>h) rfl (h.hb hs)⟩
 ·have hk:=hW.obs o ob ho;refine⟨hk.rows,hk.frz,hk.fit,hk.box,hk.bnd,fun ht=>?_⟩;obtain⟨c,e,k⟩:=hk.live ht;exact⟨c,e,⟨k.blk,k.size,k.new,fun j v x hv hx=>(k.rel j v x hv hx).re,k.one,k.old,k.free,k.clo,k.pl⟩⟩
 ·have:=h.gx;cases g with
  |none=>trivial
  |some G=>exact⟨this.z,this.sat,this.new,this.obs⟩
end
structure EffM(m:Mem)(w:World)(m':Mem)(w':World)(G':GV):Prop where
 le:m.le m'
 eq:∀b j,b<w.heap.size->m' b j=m b j
 ok:Jj m' w'
 sat:GSat m' w' G'
 new:∀i b,m'.d i=some b->m.d i=some b\/w.heap.size<=b
 os:w'.os=w.os
 tape:w'.tape=w.tape
 output:w'.output=w.output
 size:w.heap.size<=w'.heap.size
 blk:∀k,k<w.heap.size->(∀i,m.d i≠some k)->w'.heap[k]?=w.heap[k]?
def q9(m:Mem)(vs:List Value)(ts:List SV):Prop:=vs.length=ts.length/\∀(j:Nat) v x,vs[j]?=some v->ts[j]?=some x->Rep m v x
def r8(P:Program)(gf:Nat)(ts:List SV)(G G':GV):Prop:=∀(m:Mem) (w:World) (vs:List Value),Jj m w->GSat m w G->q9 m vs ts->CallsD P gf vs.toArray .returning w fun e u' w'=>u'=.returning/\e=.returned (.tuple #[])/\∃m',EffM m w m' w' G'
def Acg(P:Program)(gf:Nat)(ts:List SV)(x:SV)(G G':GV):Prop:=∀(m:Mem) (w:World) (vs:List Value) (v:Value) (old:List PanicEntry),Za old->Jj m w->GSat m w G->q9 m vs ts->Rep m v x ->
 CallsD P gf vs.toArray (.panicking ({ v:=v,recovered:=false }::old)) w fun e u' w'=>u'=.panicking ({ v:=v,recovered:=true }::old)/\e=.returned (.tuple #[])/\∃m',EffM m w m' w' G'
def Ali(P:Program)(gf:Nat)(ts:List SV)(x x':SV)(G G':GV):Prop:=∀(m:Mem) (w:World) (vs:List Value) (v:Value) (old:List PanicEntry),Za old->Jj m w->GSat m w G->q9 m vs ts->Rep m v x ->
 CallsD P gf vs.toArray (.panicking ({ v:=v,recovered:=false }::old)) w fun e u' w'=>u'=.panicking ({ v:=v,recovered:=true }::old)/\∃m' v',EffM m w m' w' G'/\Rep m' v' x'/\e=.panicked [{ v:=v',recovered:=false }]
def slT(T:List (Nat×SV))(n:Nat):List SV:=(List.range n).map fun t=>match T.find? (fun p=>p.1==t) with
 |some p=>p.2
 |none=>.J
def Bh2{E:Env}{a:Act}(h:KT T E a):∀t,RelV E (a.tmps.getD t undef) ((slT T a.tmps.size).getD t .undef):=by
 intro t;unfold slT;rw[q_j,q_ji];rcases q_jo t a.tmps.size with hl|hl
 ·rw[q_kk hl];simp only[q_jh,q_jz];cases hq:T.find? (fun p=>p.1==t) with
  |none=>exact .J _
  |some p=>
   have h1:=List.find?_some hq;have h2:=List.mem_of_find?_eq_some hq;have h3:p.1=t:=by simpa using h1
   have:=h p h2;rw[h3] at this;exact this
 ·rw[q_jd (by simpa using hl)];have:a.tmps.getD t undef=undef:=by simp[Array.getD,show ¬t<a.tmps.size by omega]
  rw[this];exact .undef
def Bh1{T:List (Nat×SV)}(hnd:∀p∈T,∀q∈T,p.1=q.1->p=q){n:Nat}{p:Nat×SV}(hp:p∈T)(hn:p.1<n):(slT T n).getD p.1 .undef=p.2:=by
 unfold slT;rw[q_j,q_ji,q_kk hn];simp only[q_jh,q_jz];cases hq:T.find? (fun q=>q.1==p.1) with
 |none=>exact absurd (List.find?_eq_none.1 hq p hp) (by simp)
 |some q=>
  have h1:=List.find?_some hq;have h2:=List.mem_of_find?_eq_some hq;rw[hnd q h2 p hp (by simpa using h1)]
def Akv{m:Mem}{w w':World}{G G':GV}{own:Nat->Prop}(ho:own=fun b=>∃i,m.d i=some b)(hsat:GSat m w G){E:Env}(hW:W w own E w')(hg:GI w.heap.size own E w' G')(hle:m.le E.m)(hk:∀b j,b<w.heap.size->¬own b->E.m0 b j=m b j):EffM m w E.m w' G':=by
 subst ho;refine⟨hle,fun b j hb=>?_,⟨hW.mem,hW.pl⟩,hg.sat,fun i b hi=>?_,hW.os,hW.tape,hW.output,hW.size,fun k hk hn=>hW.block k hk (fun ⟨i,hi⟩=>hn i hi)⟩
 ·by_cases ho:∃i,m.d i=some b
  ·obtain⟨i,hi⟩:=ho;rw[hsat.free i b j hi,hg.sat.free i b j (hle.d _ _ hi)]
  ·rw[hW.keep b j hb ho,hk b j hb ho]
 ·rcases hg.new i b hi with h|⟨i',Cn⟩
  ·exact .inr h
  ·have:=hg.sat.inj i i' b hi (hle.d _ _ Cn);subst this;exact .inl Cn
def An3{w w1 w2:World}{own:Nat->Prop}{E:Env}{G1 G2:GV}{m2:Mem}{a:Act}{n:Nat}(hW:W w own E w1)(hg:GI w.heap.size own E w1 G1)(he:EffM E.m w1 m2 w2 G2)(Oj:KT T E a)(hT:∀p∈T,∃i,p.2=.gp i 0)(hn:n=a.tmps.size)(hle:E.m0.le m2) :
  SR w own E.m0 (fun _=>True) [] { m:=m2,m0:=E.m0,H:=fun _=>none,β:=E.β,t:=E.t } (some G2) ⟨slT T n,[gOb G2]⟩ { a with defers:=[] } w2:=by
 subst hn;have Uc:KT T { m:=m2,m0:=E.m0,H:=fun _=>none,β:=E.β,t:=E.t } a:=fun p hp=>by
  obtain⟨i,e⟩:=hT p hp;have h1:=Oj p hp;rw[e] at h1 |-;exact .rep _ _ ((h1.closed_rep rfl).mono he.le)
 refine⟨⟨he.os.trans hW.os,he.tape.trans hW.tape,he.output.trans hW.output,q_kp hW.size he.size,fun k hk ho=>?_,he.ok.1,(fun o ob h=>by cases h),(fun o o' ob ob' h=>by cases h),fun b j hb ho=>?_,he.ok.2⟩,⟨rfl,he.sat,fun i b hi=>?_,(fun i b o ob _ h=>by cases h)⟩,fun o=>?_,?_,Bh2 Uc,rfl,rfl,hle,(fun h=>by cases h),fun _=>trivial⟩
 ·rw[he.blk k (q_kq hk hW.size) (fun i hi=>?_)]
  ·exact hW.block k hk ho
  ·rcases hg.new i k hi with h|h
   ·omega
   ·exact ho h
 ·rw[he.eq b j (q_kq hb hW.size)];exact hW.keep b j hb ho
 ·rcases he.new i b hi with h|h
  ·exact hg.new i b h
  ·exact .inl (q_kp hW.size h)
 ·cases o with
  |zero=>rfl
  |succ o=>rfl
 ·simp[slT]
def Va(C:CT)(R:St->Prop)(N:AC->St->Prop):Nat->AC->St->Prop
 |0,ac,s=>N ac s
 |n+1,.seq a b,s=>vc C a (fun e s'=>match e with|.normal=>Va C R N n b s'|.ret=>R s'|.exit _=>False) s
 |_+1,_,_=>False
def z5(P:Program)(gf:Nat)(ars:List AR)(Tq:HOut->GV->Prop)(T:List (Nat×SV)):AE->St->Prop:=fun e s=>match e with
 |.exit _=>False
 |_=>(∀p∈T,s.sl.getD p.1 .undef=p.2)/\∃G1 G',gOf s.hp=some G1/\r8 P gf (T.map (·.2)) G1 G'/\∀sl:List SV,(∀p∈T,sl.getD p.1 .undef=p.2)->Ii ars Tq ⟨sl,[gOb G']⟩
def Ash(P:Program)(gf:Nat)(ars:List AR)(Tq:HOut->GV->Prop)(T:List (Nat×SV)):SV->GV->Prop:=fun x G1=>
 (∃G',Acg P gf (T.map (·.2)) x G1 G'/\(∀sl:List SV,(∀p∈T,sl.getD p.1 .undef=p.2)->Ii ars Tq ⟨sl,[gOb G']⟩))\/∃x' G',Ali P gf (T.map (·.2)) x x' G1 G'/\Tq (.pan x') G'
def An0(P:Program)(gf:Nat)(ars:List AR)(Tq:HOut->GV->Prop)(T:List (Nat×SV))(t:Nat):AC->St->Prop:=fun ac s=>
 ∃ay,ac=.seq (Ahc t) ay/\t<s.sl.length/\noW T ay/\∃s',Wk (s.put (some t) .J) s'/\(∀p∈T,s'.sl.getD p.1 .undef=p.2/\p.1≠t)/\vcS (Bp P (Ash P gf ars Tq T)) T ay (z5 P gf ars Tq T) s'
section
variable{C:CT}{R:St->Prop}{N:AC->St->Prop}{n j:Nat}{a b ac:AC}{s:St}
def nxr(C:CT)(R:St->Prop)(N:AC->St->Prop)(n:Nat)(b:AC):AE->St->Prop:=fun e s'=>match e with|.normal=>Va C R N n b s'|.ret=>R s'|.exit _=>False
def Bdy:nxr C R N n b .normal s=Va C R N n b s:=q_z
def Bdz:nxr C R N n b .ret s=R s:=q_z
def Au1:Va C R N (n+1) (.seq a b) s=vc C a (nxr C R N n b) s:=by rw[Va];rfl
def Au0:Va C R N 0 ac s=N ac s:=by rw[Va]
def sqS(C:CT)(T:List (Nat×SV))(b:AC)(Q:AE->St->Prop):AE->St->Prop:=fun e s'=>match e with|.normal=>vcS C T b Q s'|e=>Q e s'
variable{Q:AE->St->Prop}{ops:List Bj}{T:List (Nat×SV)}
def Bh6:sqS C T b Q .normal s=vcS C T b Q s:=q_z
def Bke:vcS C T (.seq a b) Q s=vcS C T a (sqS C T b Q) s:=q_z
def Bka:vcS C T (.cut a b) Q s=vcS C T a (sqS C T b Q) s:=q_z
def Bkd:vcS C T .ret Q s=Q .ret s:=q_z
def Bkb:vcS C T (.reg ops false) Q s=((∀p∈T,s.sl.getD p.1 .undef=p.2)/\Fc C ops s (Q .normal)):=by simp[vcS]
def Bkc:vcS C T (.reg ops true) Q s=((∀p∈T,s.sl.getD p.1 .undef=p.2)/\Gr C ops s [] True (Q .normal)):=by simp[vcS]
attribute [go_sem] Bdy Bdz Au1 Au0 Bh6 Bke Bka Bkd Bkb Bkc
end
def Rz{m:Mem}{v:Value}{i:Nat}(h:Rep m v (.gp i 0)):∃b,v=.pointer (some ⟨b,0,none⟩)/\m.d i=some b:=by
 cases h with
 |gp _ _ b hb _=>exact⟨b,rfl,hb⟩
def Aec{f:Nat}{fn:Func}{af:AF}{t gf n:Nat}{ts:List Nat}{G:GV}{args:List SV}{Tq:HOut->GV->Prop}(hm:P.follows .mixedOrders=true)(hf:P.funcs[f]?=some fn)(htr:Ab8 P fn=some (af,t,gf,ts,n))(T:List (Nat×SV))(Li:T.map (·.1)=ts)(hT:∀p∈T,∃i,p.2=.gp i 0)(hnd:∀p∈T,∀q∈T,p.1=q.1->p=q)
  (Aid:∀(cap:Array Value) (w:World),(invoke (.fn (.func gf) cap) #[]).run P w=.ok (.enter gf cap) w)
  (h:Va (Bp P fun x G1=>Tq (.pan x) G1) (Ii af.res Tq) (An0 P gf af.res Tq T t) n af.body ⟨args++List.replicate (af.ntmps-args.length) .undef,[gOb G]⟩):HContractQ P f G args Tq:=by
 unfold Ab8 at htr;split at htr;rotate_left
 ·cases htr
 rename_i c hb;split at htr;rotate_left
 ·cases htr
 rename_i ars Mb;simp only[q_e] at htr;obtain⟨⟨ac,q⟩,hq,Fu⟩:=htr;cases Fu;have hD:=Bjb hq;intro m w vs hmem hsat Av Cm;obtain⟨own,Pw⟩:∃own:Nat->Prop,own=fun b=>∃i,m.d i=some b:=⟨_,rfl⟩
 let E0:Env:={ m:=m,m0:=m,H:=fun _=>none,β:=fun _=>0,t:=fun _=>0 }
 have hW:W w own E0 w:=⟨rfl,rfl,rfl,q_ja _,fun _ _ _=>rfl,hmem.1,fun o ob ho=>(by cases ho),fun o o' ob ob' ho=>(by cases ho),fun _ _ _ _=>rfl,hmem.2⟩
 have hS:SR w own m (fun _=>True) [] E0 (some G) { sl:=args++List.replicate (fn.ntmps-args.length) .undef,hp:=[gOb G] } { tmps:=vs.toArray++Array.replicate (fn.ntmps-vs.toArray.size) undef,defers:=[] } w:=by
  refine⟨hW,⟨rfl,hsat,fun i b hi=>.inr (by rw[Pw];exact⟨i,hi⟩),fun i b o ob _ ho=>by cases ho⟩,fun o=>?_,by simp[Av],Aep Av Cm,rfl,rfl,.refl _,(fun h=>by cases h),fun _=>trivial⟩;cases o with
  |zero=>rfl
  |succ o=>rfl
 obtain⟨R,hR⟩:∃R:Ending->World->Prop,R=fun e w'=>∃out G',Tq out G'/\∃m',Vd m' e out/\EffM m w m' w' G':=⟨_,rfl⟩
 have hmono:∀e w',R e w'->∃out G',Tq out G'/\∃m',Vd m' e out/\m.le m'/\(∀b j,b<w.heap.size->m' b j=m b j)/\Jj m' w'/\GSat m' w' G' /\
   (∀i b,m'.d i=some b->m.d i=some b\/w.heap.size<=b)/\w'.os=w.os/\w'.tape=w.tape/\w'.output=w.output/\w.heap.size<=w'.heap.size/\∀k,k<w.heap.size->(∀i,m.d i≠some k)->w'.heap[k]?=w.heap[k]?:=by
  intro e w' h;rw[hR] at h;obtain⟨out,G',h1,m',h2,h3⟩:=h;exact⟨out,G',h1,m',h2,h3.le,h3.eq,h3.ok,h3.sat,h3.new,h3.os,h3.tape,h3.output,h3.size,h3.blk⟩
 refine Calls.mono (calls_of_wp_defers (R:=R) hf hb ?_) hmono
 -- what is told at an end
 have fin:∀{M:Mem} (E:Env) (g:Option (GV)) (s:St) (a:Act) (w':World),SR w own M (fun _=>True) [] E g s a w'->m.le E.m->(∀b j,b<w.heap.size->¬own b->M b j=m b j)->Ii ars Tq s->∃v,(results fn a.tmps).run P w'=.ok v w'/\R (.returned v) w':=by
  intro M E g s a w' hS hle hk hr;unfold Ii at hr;split at hr;rotate_left
  ·exact hr.elim
  rename_i p svs hp' Om;obtain⟨hp,hr⟩:=hr;split at hr;rotate_left
  ·exact hr.elim
  rename_i G' hG;obtain⟨us,E',k1,k2,k3,k4,k5⟩:=Ab1 fn.results.toList ars p svs hp' E s Mb Om hp hS;have:=Oy (U:=fun _=>True) (s:={ s with hp:=hp' }) (fun o _=>k4.hp o) trivial k4.wo hG;subst this;rw[hR];exact⟨_,Ab0 k1,_,G',hr,E'.m,⟨_,rfl,Abu rfl k2 k3⟩,Akv Pw hsat k4.wo k4.gx (hle.trans k5) (fun b j hb ho=>by rw[k4.z];exact hk b j hb ho)⟩
 -- what is told behind the closure
 have clo:∀{M:Mem} {E:Env} {a:Act} {w1 w2:World} {G1 G2:GV} {m2:Mem},W w own E w1->GI w.heap.size own E w1 G1->M.le E.m->E.m0=M->m.le M->(∀b j,b<w.heap.size->¬own b->M b j=m b j)->KT T E a->EffM E.m w1 m2 w2 G2 ->
   (∀sl:List SV,(∀p∈T,sl.getD p.1 .undef=p.2)->Ii ars Tq ⟨sl,[gOb G2]⟩)->∃v,(results fn a.tmps).run P w2=.ok v w2/\R (.returned v) w2:=by
  intro M E a w1 w2 G1 G2 m2 hW hg hle hz hmM hk Oj he hr;subst hz;have hS2:=An3 hW hg he Oj hT rfl (hle.trans he.le);refine fin _ _ ⟨slT T a.tmps.size,[gOb G2]⟩ { a with defers:=[] } w2 hS2 (hmM.trans (hle.trans he.le)) hk (hr _ fun p hp=>Bh1 hnd hp ?_);obtain⟨i,e⟩:=hT p hp;have h1:=Oj p hp;rw[e] at h1;obtain⟨b,e2,_⟩:=Rz (h1.closed_rep rfl);rcases q_jo p.1 a.tmps.size with hl|hl
  ·exact hl
  ·have:a.tmps.getD p.1 undef=undef:=by simp[Array.getD,show ¬p.1<a.tmps.size by omega]
   rw[this] at e2;cases e2
 -- the closure,in the frame
 have caps:∀{M E1:Env} {a1 a2:Act},KT T M a1->KT T E1 a2->M.m.le E1.m->q9 E1.m (ts.map fun t=>a1.tmps.getD t undef) (T.map (·.2)):=by
  intro M E1 a1 a2 h1 h2 hle;subst Li;refine⟨by simp,fun j v x hv hx=>?_⟩;rw[q_ji,q_ji] at hv;rw[q_ji] at hx;cases hj:T[j]? with
  |none=>rw[hj] at hx;cases hx
  |some p=>
   rw[hj] at hv hx;simp only[q_jh,q_b] at hv hx;subst hv hx;have hp:=q_jb hj;obtain⟨i,e⟩:=hT p hp;have h3:=h1 p hp;rw[e] at h3 |-;exact (h3.closed_rep rfl).mono hle
 have tailW:∀{E:Env} {g:Option (GV)} {s':St} {a:Act} {w1:World} {y:Code} {ay:AC} {cap:Array Value},trC P y=some ay->noW T ay->SR w own E.m (fun _=>True) [Zo gf cap] E g s' a w1->cap=(ts.map fun t=>a.tmps.getD t undef).toArray->m.le E.m->(∀b j,b<w.heap.size->¬own b->E.m b j=m b j)->KT T E a ->
   vcS (Bp P (Ash P gf ars Tq T)) T ay (z5 P gf ars Tq T) s'->y.wp P (bodyPostD P fn R) a w1:=by
  intro E g s' a w1 y ay cap hy Dx hS Zw hle hk Oj hv;subst Zw;refine Bkf hm y ay hy Dx (M0:=E.m) ?_ (fun e E2 g2 s2 a2 w2 hS2 he=>?_) E g s' a w1 hS hv
  ·intro E2 u x G1 a2 w2 hx Cm hW2 hg2 hle2 Du Et Uc old Jb;simp only[bodyPostD,Et];rcases hx with⟨G',hc,hr⟩|⟨x',G',hc,hr⟩
   ·refine leaves_cons (by simp) (Aid _ w2) ?_;refine (hc E2.m w2 _ u old Jb ⟨hW2.mem,hW2.pl⟩ hg2.sat (caps Oj Uc hle2) Cm).mono ?_;rintro e u' w3 ⟨rfl,rfl,m3,he⟩;have hdw:old.dropWhile (fun x=>!x.goexit)=[]:=by
     clear Cm hW2 hg2
     induction old with
     |nil=>rfl
     |cons p l ih=>
      rw[List.dropWhile_cons_of_pos (by rw[Jb p (List.mem_cons_self ..)];rfl)];exact ih fun q hq=>Jb q (List.mem_cons_of_mem _ hq)
    simp only[settle,hdw,Leaves];exact clo hW2 hg2 hle2 Du hle hk Uc he hr
   ·refine leaves_cons (by simp) (Aid _ w2) ?_;refine (hc E2.m w2 _ u old Jb ⟨hW2.mem,hW2.pl⟩ hg2.sat (caps Oj Uc hle2) Cm).mono ?_;rintro e u' w3 ⟨rfl,m3,v',he,hrep',rfl⟩;simp only[raised,Leaves];rw[hR];have hold2:Za ({ v:=u,recovered:=true }::old):=fun p hp=>by
     rcases q_kb.1 hp with rfl|hp
     ·rfl
     ·exact Jb p hp
    have hz:E2.m0=E.m:=Du;have hS3:=An3 hW2 hg2 he Uc hT rfl (by rw[hz];exact hle2.trans he.le);exact⟨_,G',hr,m3,⟨v',_,hold2,rfl,hrep'⟩,Akv (E:={ m:=m3,m0:=E2.m0,H:=fun _=>none,β:=E2.β,t:=E2.t }) Pw hsat hS3.wo hS3.gx (hle.trans (hle2.trans he.le)) (fun b j hb ho=>by show E2.m0 b j=m b j;rw[hz];exact hk b j hb ho)⟩
  ·have Et:=hS2.dfr;have key:(∀p∈T,s2.sl.getD p.1 .undef=p.2)/\(∃G1 G',gOf s2.hp=some G1/\r8 P gf (T.map (·.2)) G1 G'/\∀sl:List SV,(∀p∈T,sl.getD p.1 .undef=p.2)->Ii ars Tq ⟨sl,[gOb G']⟩)->Leaves P fn a2.tmps R [Zo gf (ts.map fun t=>a.tmps.getD t undef).toArray] .returning w2:=by
    rintro ⟨Fb,G1,G',hG,hc,hr⟩;have Uc:KT T E2 a2:=fun p hp=>by have:=hS2.sl p.1;rw[Fb p hp] at this;exact this
    have l6:=Oy (U:=fun _=>True) (fun o _=>hS2.hp o) trivial hS2.wo hG;subst l6;refine leaves_cons (by simp) (Aid _ w2) ?_;refine (hc E2.m w2 _ ⟨hS2.wo.mem,hS2.wo.pl⟩ hS2.gx.sat (caps Oj Uc hS2.le)).mono ?_;rintro e u' w3 ⟨rfl,rfl,m3,he⟩;exact clo hS2.wo hS2.gx hS2.le hS2.z hle hk Uc he hr
   cases e with
   |normal=>simp only[AE.ex,bodyPostD,Et];exact key he
   |exit id=>exact he.elim
   |ret=>simp only[AE.ex,bodyPostD,Et];exact key he
 have pre:∀{n:Nat} {c:Code} {ac:AC},s9 P t gf ts n c ac->∀(E:Env) (g:Option (GV)) (s:St) (a:Act) (w1:World),SR w own m (fun _=>True) [] E g s a w1->Va (Bp P fun x G1=>Tq (.pan x) G1) (Ii ars Tq) (An0 P gf ars Tq T t) n ac s->c.wp P (bodyPostD P fn R) a w1:=by
  intro n c ac hD
  induction hD with
  |seq n x y ax ay hx _ ih=>
   intro E g s a w1 hS h;rw[Au1] at h;refine wp_seq (Yy (X:=fun x G1=>Tq (.pan x) G1) hm x ax hx (Q:=Exit.then (y.wp P (bodyPostD P fn R)) (bodyPostD P fn R)) (fun E2 u x G1 a2 w2 hx Cm hW2 hg2 hle2 Du Et old Jb=>?_) (fun e E g s a w2 hS he=>?_) E g s a w1 hS h)
   ·show bodyPostD P fn R (.panic _) a2 w2;simp only[bodyPostD,Et,Leaves];rw[hR];exact⟨_,G1,hx,E2.m,⟨u,old,Jb,rfl,Cm⟩,Akv Pw hsat hW2 hg2 hle2 (fun b j _ _=>by rw[Du])⟩
   ·cases e with
    |normal=>exact ih E g s a w2 hS he
    |exit id=>exact he.elim
    |ret=>
     show bodyPostD P fn R .ret a w2;have hd:=hS.dfr;simp only[bodyPostD,hd,Leaves];exact fin E g s a w2 hS hS.le (fun _ _ _ _=>rfl) he
  |door id ty1 ty2 p1 p2 af1 af2 cps y ay Zw hy=>
   intro E g s a w1 hS h;rw[Au0] at h;obtain⟨ay',Dr,ht,Dx,s',hwk,Fb,hv⟩:=h;cases Dr;have Hx:t<a.tmps.size:=by rw[<-hS.len];exact ht
   refine wp_seq (wp_region ?_);have hd:=hS.dfr;have hz:∀(u:Value),(a.put (some t) u).tmps.getD t undef=u:=fun u=>by simp[Act.put,Hx]
   simp only[List.size_toArray,q_jk,List.length_nil,q_jg,Nat.reduceAdd,List.range_succ,List.range_zero,q_kn,q_ko];have hmf:∀(fn:Fn) (first cap:Array Value) (w:World),(Instr.makeFunc fn first cap).run P w=.ok (.func fn first cap) w:=fun _ _ _ _=>rfl
   have Aiv:(resolve (a.put (some t) (Value.func (Fn.func gf) #[] (Array.map a.eval cps))).eval { callee:=Callee.value (Operand.tmp t),args:=#[],argTypes:=#[] } ty2).run P w1=.ok (Zo gf (Array.map a.eval cps)) w1:=by
    have:=hz (Value.func (Fn.func gf) #[] (Array.map a.eval cps));simp[resolve,Act.eval,this,Zo,Deferred.ofValue]
   simp[wpOps,Oper.wp,execOp,Region.wanted,hmf,Exit.then,Oper.upon,Aiv];refine .inl (.inl ?_);have hS1:SR w own m (fun _=>True) [Zo gf (Array.map a.eval cps)] E g (s.put (some t) .J) { tmps:=(a.put (some t) (Value.func (Fn.func gf) #[] (Array.map a.eval cps))).tmps,defers:=Zo gf (Array.map a.eval cps)::(a.put (some t) (Value.func (Fn.func gf) #[] (Array.map a.eval cps))).defers } w1:=by
    refine⟨hS.wo,hS.gx,fun o=>by rw[Aby];exact hS.hp o,?_,?_,?_,hS.z,hS.le,hS.d,hS.hb⟩
    ·simpa [Act.put,St.put] using hS.len
    ·exact As8 (hp:=s.hp) hS.len hS.sl (.J _)
    ·simp[Act.put,hd]
   obtain⟨E',g',hS2⟩:=Alb hwk hS1;have hS3:=hS2.reb;have Vu:=Axm Zw a;have hgt:∀u,∀t'∈ts,(a.put (some t) u).tmps.getD t' undef=a.tmps.getD t' undef:=fun u t' Lh=>by
    rw[<-Li] at Lh;obtain⟨p,hp,rfl⟩:=q_lc.1 Lh;have Bn:=(Fb p hp).2;simp[Act.put,Array.getElem?_setIfInBounds,Ne.symm Bn]
   refine tailW (E:={ E' with m0:=E'.m }) hy Dx hS3 ?_ hS2.le (fun b j hb ho=>?_) (fun p hp=>?_) hv
   ·rw[Vu];congr 1;exact List.map_congr_left fun t' Lh=>(hgt _ t' Lh).symm
   ·have:=hS2.wo.keep b j hb ho;rw[hS2.z] at this;exact this
   ·have:=hS2.sl p.1;rw[(Fb p hp).1] at this;obtain⟨i,e⟩:=hT p hp;rw[e] at this |-;exact .rep _ _ (this.closed_rep rfl)
 exact pre hD E0 (some G) _ _ w hS h
end
end Go.Proofs.YtgdkddjdhijfnaaGreatDoor.Abs
namespace Go.Proofs.YtgdkddjdhijfnaaGreatDoor.Nrm
open Go Go.RowKit
structure Bg(w w':World):Prop where
 os:w'.os=w.os
 tape:w'.tape=w.tape
 output:w'.output=w.output
 size:w.heap.size<=w'.heap.size
 old:∀k,k<w.heap.size->w'.heap[k]?=w.heap[k]?
def Mz(w:World)(o:Obj):Bg w (w.alloc o):=⟨rfl,rfl,rfl,(by show w.heap.size<=(w.heap.push o).size;simp),fun k hk=>(by show (w.heap.push o)[k]?=w.heap[k]?;simp[Array.getElem?_push,Nat.ne_of_lt hk])⟩
def Amd(w:World):(Instr.typeAssert (.iface 48 (.agg #[])) 20 48 true).run Tryz.prog w=.ok (.tuple #[.agg #[],.bool true]) w:=by
 kernel_rfl
def outV:Value:=.iface 48 (.agg #[])
def Qs{w:World}{b:Nat}{c:Array Value}{e:TypeId}(h:w.heap[b]?=some (.cells c e (0,0)))(j:Nat):w.cell? ⟨b,j,none⟩=c[j]?:=by simp[World.cell?,h]
def Qt{w:World}{b:Nat}{c:Array Value}{e:TypeId}(h:w.heap[b]?=some (.cells c e (0,0)))(j:Nat):w.frozen? ⟨b,j,none⟩=false:=by simp[World.frozen?,h]
def Fq{w:World}{b j b' j':Nat}{v:Value}(h:b≠b'\/j≠j'):(w.setCell ⟨b',j',none⟩ v).cell? ⟨b,j,none⟩=w.cell? ⟨b,j,none⟩:=by
 by_cases hb:b'=b
 ·subst hb;have hj:j'≠j:=fun e=>by rcases h with h|h;exact h rfl;exact h e.symm
  simp only[World.setCell,World.cell?,Array.getElem?_modify,if_true];cases w.heap[b']? with
  |none=>rfl
  |some o=>cases o<;>simp[Array.getElem?_setIfInBounds,hj]
 ·simp only[World.setCell,World.cell?,Array.getElem?_modify,hb,if_false]
def u9{w:World}{b j:Nat}{v u:Value}(h:w.cell? ⟨b,j,none⟩=some u):(w.setCell ⟨b,j,none⟩ v).cell? ⟨b,j,none⟩=some v:=by
 simp only[World.setCell,World.cell?,Array.getElem?_modify,if_true] at h |-;cases hq:w.heap[b]? with
 |none=>rw[hq] at h;cases h
 |some o=>
  rw[hq] at h;cases o<;>simp_all[Array.getElem?_setIfInBounds]
  all_goals (try (have:=(Array.getElem?_eq_some_iff.1 h).1;simp_all))
def heap_set{w:World}{b j k:Nat}{v:Value}(h:k≠b):(w.setCell ⟨b,j,none⟩ v).heap[k]?=w.heap[k]?:=RowKit.Below.heap_setCell _ _ _ _ h
def Bht(w:World)(a:Addr)(v:Value):(w.setCell a v).heap.size=w.heap.size:=by simp[World.setCell]
structure F6(w:World)(b4 b5:Nat)(v0 v1 v2 v3 v4 v5:Value):Prop where
 ne:b4≠b5
 c0:w.cell? ⟨b4,0,none⟩=some v0
 c1:w.cell? ⟨b4,1,none⟩=some v1
 c2:w.cell? ⟨b4,2,none⟩=some v2
 c3:w.cell? ⟨b4,3,none⟩=some v3
 c4:w.cell? ⟨b4,4,none⟩=some v4
 c5:w.cell? ⟨b5,0,none⟩=some v5
def F6.s0{w:World}{b4 b5:Nat}{v0 v1 v2 v3 v4 v5:Value}(h:F6 w b4 b5 v0 v1 v2 v3 v4 v5)(x:Value):F6 (w.setCell ⟨b4,0,none⟩ x) b4 b5 x v1 v2 v3 v4 v5:=
 ⟨h.ne,u9 h.c0,(Fq (.inr (show (1:Nat)≠0 by decide))).trans h.c1,(Fq (.inr (show (2:Nat)≠0 by decide))).trans h.c2,(Fq (.inr (show (3:Nat)≠0 by decide))).trans h.c3,(Fq (.inr (show (4:Nat)≠0 by decide))).trans h.c4,(Fq (.inl (Ne.symm h.ne))).trans h.c5⟩
def F6.s1{w:World}{b4 b5:Nat}{v0 v1 v2 v3 v4 v5:Value}(h:F6 w b4 b5 v0 v1 v2 v3 v4 v5)(x:Value):F6 (w.setCell ⟨b4,1,none⟩ x) b4 b5 v0 x v2 v3 v4 v5:=
 ⟨h.ne,(Fq (.inr (show (0:Nat)≠1 by decide))).trans h.c0,u9 h.c1,(Fq (.inr (show (2:Nat)≠1 by decide))).trans h.c2,(Fq (.inr (show (3:Nat)≠1 by decide))).trans h.c3,(Fq (.inr (show (4:Nat)≠1 by decide))).trans h.c4,(Fq (.inl (Ne.symm h.ne))).trans h.c5⟩
def F6.s2{w:World}{b4 b5:Nat}{v0 v1 v2 v3 v4 v5:Value}(h:F6 w b4 b5 v0 v1 v2 v3 v4 v5)(x:Value):F6 (w.setCell ⟨b4,2,none⟩ x) b4 b5 v0 v1 x v3 v4 v5:=
 ⟨h.ne,(Fq (.inr (show (0:Nat)≠2 by decide))).trans h.c0,(Fq (.inr (show (1:Nat)≠2 by decide))).trans h.c1,u9 h.c2,(Fq (.inr (show (3:Nat)≠2 by decide))).trans h.c3,(Fq (.inr (show (4:Nat)≠2 by decide))).trans h.c4,(Fq (.inl (Ne.symm h.ne))).trans h.c5⟩
def F6.s3{w:World}{b4 b5:Nat}{v0 v1 v2 v3 v4 v5:Value}(h:F6 w b4 b5 v0 v1 v2 v3 v4 v5)(x:Value):F6 (w.setCell ⟨b4,3,none⟩ x) b4 b5 v0 v1 v2 x v4 v5:=
 ⟨h.ne,(Fq (.inr (show (0:Nat)≠3 by decide))).trans h.c0,(Fq (.inr (show (1:Nat)≠3 by decide))).trans h.c1,(Fq (.inr (show (2:Nat)≠3 by decide))).trans h.c2,u9 h.c3,(Fq (.inr (show (4:Nat)≠3 by decide))).trans h.c4,(Fq (.inl (Ne.symm h.ne))).trans h.c5⟩
def F6.s4{w:World}{b4 b5:Nat}{v0 v1 v2 v3 v4 v5:Value}(h:F6 w b4 b5 v0 v1 v2 v3 v4 v5)(x:Value):F6 (w.setCell ⟨b4,4,none⟩ x) b4 b5 v0 v1 v2 v3 x v5:=
 ⟨h.ne,(Fq (.inr (show (0:Nat)≠4 by decide))).trans h.c0,(Fq (.inr (show (1:Nat)≠4 by decide))).trans h.c1,(Fq (.inr (show (2:Nat)≠4 by decide))).trans h.c2,(Fq (.inr (show (3:Nat)≠4 by decide))).trans h.c3,u9 h.c4,(Fq (.inl (Ne.symm h.ne))).trans h.c5⟩
end Go.Proofs.YtgdkddjdhijfnaaGreatDoor.Nrm
namespace Go.Proofs.YtgdkddjdhijfnaaGreatDoor.Nrm
open Go Go.RowKit
def Auq(cap:Array Value)(h:cap.size=2):∃x y,cap=#[x,y]:=by
 obtain⟨l⟩:=cap
 match l,h with
 |[x,y],_=>exact⟨x,y,rfl⟩
def Bay(cap:Array Value)(w:World)(h:cap.size=2):CallsD Tryz.prog 18 cap .returning w fun e u' w'=>u'=.returning/\e=.returned (.tuple #[])/\w'=w:=by
 obtain⟨x,y,rfl⟩:=Auq cap h;refine callsD_of_wpS Tryz.func18 rfl fun c₀ cs hu=>?_
 apply wpS_seq;apply wpS_region;simp[wpOpsS,go_sem,recoverD,hu,Tryz.ntmps18,Exit.thenS];apply wpS_seq;apply wpS_region;simp[wpOpsS,go_sem,recoverD,hu,Exit.thenS];refine wpS_cond (t:=false) (by simp[Act.eval,Array.replicate]) ?_;simp only[Bool.false_eq_true,if_false];refine wpS_of_wp (wp_skip ?_);cases c₀;simp_all[bodyPostS,results,Tryz.results18]
def Baz(cap:Array Value)(w:World)(h:cap.size=2):CallsD Tryz.prog 50 cap .returning w fun e u' w'=>u'=.returning/\e=.returned (.tuple #[])/\w'=w:=by
 obtain⟨x,y,rfl⟩:=Auq cap h;refine callsD_of_wpS Tryz.func50 rfl fun c₀ cs hu=>?_
 apply wpS_seq;apply wpS_region;simp[wpOpsS,go_sem,recoverD,hu,Tryz.ntmps50,Exit.thenS];apply wpS_seq;apply wpS_region;simp[wpOpsS,go_sem,recoverD,hu,Exit.thenS];refine wpS_cond (t:=false) (by simp[Act.eval,Array.replicate]) ?_;simp only[Bool.false_eq_true,if_false];refine wpS_of_wp (wp_skip ?_);cases c₀;simp_all[bodyPostS,results,Tryz.results50]
end Go.Proofs.YtgdkddjdhijfnaaGreatDoor.Nrm
namespace Go.Proofs.YtgdkddjdhijfnaaGreatDoor.Nrm
open Go Go.RowKit Go.Proofs.YtgdkddjdhijfnaaGreatDoor.Abs
def oV:Value:=.iface 48 (.agg #[])
def Afp{m:Mem}{v:Value}{t:Nat}(h:Rep m v (.ife t)):v=.iface t (.agg #[]):=by cases h;rfl
def Bgs(w:World)(b1 b2:Nat)(c1 c2:Array Value)(e1 e2:TypeId)(h1:w.heap[b1]?=some (.cells c1 e1 (0,0)))(h2:w.heap[b2]?=some (.cells c2 e2 (0,0)))(v1 v2:Value)(k1:c1[0]?=some v1)(k2:c2[0]?=some v2)(Bn:b1≠b2)(old:List PanicEntry) :
  CallsD Tryz.prog 50 #[.pointer (some ⟨b1,0,none⟩),.pointer (some ⟨b2,0,none⟩)] (.panicking ({ v:=oV,recovered:=false }::old)) w fun e u' w'=>u'=.panicking ({ v:=oV,recovered:=true }::old)/\e=.returned (.tuple #[])/\∃w1,Bg w w1/\w'=(w1.setCell ⟨b1,0,none⟩ (.bool false)).setCell ⟨b2,0,none⟩ (.bool false):=by
 refine callsD_of_wpS Tryz.func50 rfl fun c₀ cs hu=>?_
 apply wpS_seq;apply wpS_region;simp[wpOpsS,go_sem,recoverD,hu,Tryz.ntmps50,Exit.thenS];apply wpS_seq;apply wpS_region;simp[wpOpsS,go_sem,recoverD,hu,Exit.thenS,oV];refine wpS_cond (t:=true) (by simp[Act.eval,Array.replicate]) ?_;simp only[if_true];refine wpS_of_wp ?_;have ha:=Amd;have c1':∀o,(w.alloc o).cell? ⟨b1,0,none⟩=some v1:=fun o=>by rw[Qs ((Mz w o).old b1 (lt_of_block h1) ▸ h1)];exact k1
 have f1':∀o,(w.alloc o).frozen? ⟨b1,0,none⟩=false:=fun o=>Qt ((Mz w o).old b1 (lt_of_block h1) ▸ h1) 0
 have c2':∀o u,((w.alloc o).setCell ⟨b1,0,none⟩ u).cell? ⟨b2,0,none⟩=some v2:=fun o u=>by rw[Fq (.inl (Ne.symm Bn)),Qs ((Mz w o).old b2 (lt_of_block h2) ▸ h2)];exact k2
 have f2':∀o u,((w.alloc o).setCell ⟨b1,0,none⟩ u).frozen? ⟨b2,0,none⟩=false:=fun o u=>Qt (by rw[heap_set (Ne.symm Bn),(Mz w o).old b2 (lt_of_block h2)];exact h2) 0
 simp only[Array.replicate]
 go_wp2_with fail
 exact⟨rfl,_,rfl,_,by simp[results,Tryz.results50],rfl,rfl,_,Mz _ _,rfl⟩
def Bgr(w:World)(b1 b2:Nat)(c1 c2:Array Value)(e1 e2:TypeId)(h1:w.heap[b1]?=some (.cells c1 e1 (0,0)))(h2:w.heap[b2]?=some (.cells c2 e2 (0,0)))(v1 v2:Value)(k1:c1[0]?=some v1)(k2:c2[0]?=some v2)(Bn:b1≠b2)(old:List PanicEntry) :
  CallsD Tryz.prog 18 #[.pointer (some ⟨b1,0,none⟩),.pointer (some ⟨b2,0,none⟩)] (.panicking ({ v:=oV,recovered:=false }::old)) w fun e u' w'=>u'=.panicking ({ v:=oV,recovered:=true }::old)/\e=.returned (.tuple #[])/\∃w1,Bg w w1/\w'=(w1.setCell ⟨b1,0,none⟩ (.bool false)).setCell ⟨b2,0,none⟩ (.int .i64 6):=by
 refine callsD_of_wpS Tryz.func18 rfl fun c₀ cs hu=>?_
 apply wpS_seq;apply wpS_region;simp[wpOpsS,go_sem,recoverD,hu,Tryz.ntmps18,Exit.thenS];apply wpS_seq;apply wpS_region;simp[wpOpsS,go_sem,recoverD,hu,Exit.thenS,oV];refine wpS_cond (t:=true) (by simp[Act.eval,Array.replicate]) ?_;simp only[if_true];refine wpS_of_wp ?_;have ha:=Amd;have c1':∀o,(w.alloc o).cell? ⟨b1,0,none⟩=some v1:=fun o=>by rw[Qs ((Mz w o).old b1 (lt_of_block h1) ▸ h1)];exact k1
 have f1':∀o,(w.alloc o).frozen? ⟨b1,0,none⟩=false:=fun o=>Qt ((Mz w o).old b1 (lt_of_block h1) ▸ h1) 0
 have c2':∀o u,((w.alloc o).setCell ⟨b1,0,none⟩ u).cell? ⟨b2,0,none⟩=some v2:=fun o u=>by rw[Fq (.inl (Ne.symm Bn)),Qs ((Mz w o).old b2 (lt_of_block h2) ▸ h2)];exact k2
 have f2':∀o u,((w.alloc o).setCell ⟨b1,0,none⟩ u).frozen? ⟨b2,0,none⟩=false:=fun o u=>Qt (by rw[heap_set (Ne.symm Bn),(Mz w o).old b2 (lt_of_block h2)];exact h2) 0
 simp only[Array.replicate]
 go_wp2_with fail
 exact⟨rfl,_,rfl,_,by simp[results,Tryz.results18],rfl,rfl,_,Mz _ _,rfl⟩
def Awn(w:World):(Instr.typeAssert (.iface 123 (.agg #[])) 20 123 true).run Tryz.prog w=.ok (.tuple #[.agg #[],.bool true]) w:=by
 kernel_rfl
def Awo(w:World):(Instr.typeAssert (.iface 48 (.agg #[])) 20 123 true).run Tryz.prog w=.ok (.tuple #[.agg #[],.bool false]) w:=by
 kernel_rfl
def fV:Value:=.iface 123 (.agg #[])
def Bgy(w:World)(b1 bm:Nat)(cap:Value)(c1 cm:Array Value)(e1 em:TypeId)(h1:w.heap[b1]?=some (.cells c1 e1 (0,0)))(hm:w.heap[bm]?=some (.cells cm em (0,0)))(vm:Value)(k1:c1[0]?=some (.pointer (some ⟨bm,0,none⟩)))(km:cm[3]?=some vm) :
  CallsD Tryz.prog 114 #[.pointer (some ⟨b1,0,none⟩),cap] .returning w fun e u' w'=>u'=.returning/\e=.returned (.tuple #[])/\w'=w.setCell ⟨bm,3,none⟩ (.int .i64 0):=by
 refine callsD_of_wpS Tryz.func114 rfl fun c₀ cs hu=>?_
 rw[<-Qs h1] at k1;have hm0:=hm;rw[<-Qs hm] at km;have f1:=Qt h1 0;have fm:=Qt hm 3;apply wpS_seq;apply wpS_region;simp[wpOpsS,go_sem,recoverD,hu,Tryz.ntmps114,Exit.thenS,k1,km,f1,fm];apply wpS_seq;apply wpS_region;simp[wpOpsS,go_sem,recoverD,hu,Exit.thenS];apply wpS_seq;apply wpS_region;simp[wpOpsS,go_sem,recoverD,hu,Exit.thenS,oV];refine wpS_cond (t:=false) (by simp[Act.eval,Array.replicate]) ?_;simp only[q_la,if_false];refine wpS_of_wp (wp_skip ?_);cases c₀;simp_all[bodyPostS,results,Tryz.results114]
def A7t(w:World)(b1 bm:Nat)(b2:Nat)(c1 cm:Array Value)(e1 em:TypeId)(h1:w.heap[b1]?=some (.cells c1 e1 (0,0)))(hm:w.heap[bm]?=some (.cells cm em (0,0)))(vm:Value)(k1:c1[0]?=some (.pointer (some ⟨bm,0,none⟩)))(km:cm[3]?=some vm)(c2:Array Value)(e2:TypeId)(h2:w.heap[b2]?=some (.cells c2 e2 (0,0)))(v2:Value)(k2:c2[0]?=some v2)(Bn:b2≠bm)(old:List PanicEntry) :
  CallsD Tryz.prog 114 #[.pointer (some ⟨b1,0,none⟩),.pointer (some ⟨b2,0,none⟩)] (.panicking ({ v:=fV,recovered:=false }::old)) w fun e u' w'=>u'=.panicking ({ v:=fV,recovered:=true }::old)/\e=.returned (.tuple #[])/\∃w1,Bg (w.setCell ⟨bm,3,none⟩ (.int .i64 0)) w1/\w'=w1.setCell ⟨b2,0,none⟩ (.bool false):=by
 refine callsD_of_wpS Tryz.func114 rfl fun c₀ cs hu=>?_
 rw[<-Qs h1] at k1;have hm0:=hm;rw[<-Qs hm] at km;have f1:=Qt h1 0;have fm:=Qt hm 3;apply wpS_seq;apply wpS_region;simp[wpOpsS,go_sem,recoverD,hu,Tryz.ntmps114,Exit.thenS,k1,km,f1,fm];apply wpS_seq;apply wpS_region;simp[wpOpsS,go_sem,recoverD,hu,Exit.thenS];apply wpS_seq;apply wpS_region;simp[wpOpsS,go_sem,recoverD,hu,Exit.thenS,fV];refine wpS_cond (t:=true) (by simp[Act.eval,Array.replicate]) ?_;simp only[if_true];refine wpS_of_wp ?_;have ha:=Awn;have Fj:(w.setCell ⟨bm,3,none⟩ (.int .i64 0)).heap[b2]?=some (.cells c2 e2 (0,0)):=by rw[heap_set Bn];exact h2
 have c2':∀o,((w.setCell ⟨bm,3,none⟩ (.int .i64 0)).alloc o).cell? ⟨b2,0,none⟩=some v2:=fun o=>by rw[Qs ((Mz _ o).old b2 (lt_of_block Fj) ▸ Fj)];exact k2
 have f2':∀o,((w.setCell ⟨bm,3,none⟩ (.int .i64 0)).alloc o).frozen? ⟨b2,0,none⟩=false:=fun o=>Qt ((Mz _ o).old b2 (lt_of_block Fj) ▸ Fj) 0
 simp only[Array.replicate]
 go_wp2_with fail
 exact⟨rfl,_,rfl,_,by simp[results,Tryz.results114],rfl,rfl,_,Mz _ _,rfl⟩
def Bel(w:World)(b1 bm:Nat)(cap:Value)(c1 cm:Array Value)(e1 em:TypeId)(h1:w.heap[b1]?=some (.cells c1 e1 (0,0)))(hm:w.heap[bm]?=some (.cells cm em (0,0)))(vm:Value)(k1:c1[0]?=some (.pointer (some ⟨bm,0,none⟩)))(km:cm[3]?=some vm)(old:List PanicEntry) :
  CallsD Tryz.prog 114 #[.pointer (some ⟨b1,0,none⟩),cap] (.panicking ({ v:=oV,recovered:=false }::old)) w fun e u' w'=>u'=.panicking ({ v:=oV,recovered:=true }::old)/\e=.panicked [{ v:=oV,recovered:=false }]/\Bg (w.setCell ⟨bm,3,none⟩ (.int .i64 0)) w':=by
 refine callsD_of_wpS Tryz.func114 rfl fun c₀ cs hu=>?_
 rw[<-Qs h1] at k1;have hm0:=hm;rw[<-Qs hm] at km;have f1:=Qt h1 0;have fm:=Qt hm 3;apply wpS_seq;apply wpS_region;simp[wpOpsS,go_sem,recoverD,hu,Tryz.ntmps114,Exit.thenS,k1,km,f1,fm];apply wpS_seq;apply wpS_region;simp[wpOpsS,go_sem,recoverD,hu,Exit.thenS];apply wpS_seq;apply wpS_region;simp[wpOpsS,go_sem,recoverD,hu,Exit.thenS,oV];refine wpS_cond (t:=true) (by simp[Act.eval,Array.replicate]) ?_;simp only[if_true];refine wpS_of_wp ?_;have ha:=Awo;simp only[Array.replicate]
 go_wp2_with fail
 exact⟨rfl,_,rfl,rfl,rfl,Mz _ _⟩
end Go.Proofs.YtgdkddjdhijfnaaGreatDoor.Nrm
namespace Go.Proofs.YtgdkddjdhijfnaaGreatDoor.Abs
open Go Go.RowKit Go.Proofs.YtgdkddjdhijfnaaGreatDoor Go.Proofs.YtgdkddjdhijfnaaGreatDoor.Nrm
section
variable{m m1 m2:Mem}{w w1 w2:World}{G G1 G2:GV}
def EffM.id(hm:Jj m w)(hs:GSat m w G):EffM m w m w G:=⟨.refl _,fun _ _ _=>rfl,hm,hs,fun i b h=>.inl h,rfl,rfl,rfl,q_ja _,fun _ _ _=>rfl⟩
def EffM.trans(h:EffM m w m1 w1 G1)(k:EffM m1 w1 m2 w2 G2):EffM m w m2 w2 G2:=by
 refine⟨h.le.trans k.le,fun b j hb=>(k.eq b j (q_kq hb h.size)).trans (h.eq b j hb),k.ok,k.sat,fun i b hi=>?_,k.os.trans h.os,k.tape.trans h.tape,k.output.trans h.output,q_kp h.size k.size,fun b hb hn=>?_⟩
 ·rcases k.new i b hi with h1|h1
  ·exact h.new i b h1
  ·exact .inr (q_kp h.size h1)
 ·rw[k.blk b (q_kq hb h.size) (fun i hi=>?_),h.blk b hb hn];rcases h.new i b hi with h1|h1
  ·exact hn i h1
  ·omega
def Ac5(hm:Jj m w)(hs:GSat m w G)(hb:Bg w w1):EffM m w m w1 G:=by
 have cell:∀b j v,w.cell? ⟨b,j,none⟩=some v->w1.cell? ⟨b,j,none⟩=some v:=fun b j v h=>by
  have hl:b<w.heap.size:=by
   rcases q_jo b w.heap.size with h1|h1
   ·exact h1
   ·simp[World.cell?,Array.getElem?_eq_none h1] at h
  simpa [World.cell?,hb.old b hl] using h
 refine⟨.refl _,fun _ _ _=>rfl,⟨fun b j v h=>cell b j v (hm.1 b j v h),fun b h=>?_⟩,⟨hs.dom,hs.inj,fun i r b hr hi=>(hs.row i r b hr hi).mono (.refl _) (hb.old b (hs.lt hi)),hs.free⟩,fun i b h=>.inl h,hb.os,hb.tape,hb.output,hb.size,fun k hk _=>hb.old k hk⟩;obtain⟨c,e,h1⟩:=hm.2 b h;exact⟨c,e,by rw[hb.old b (lt_of_block h1)];exact h1⟩
def Atn{b c:Nat}{cs:Array Value}{e:TypeId}{v:Value}(h:w.heap[b]?=some (.cells cs e (0,0))):(w.setCell ⟨b,c,none⟩ v).heap[b]?=some (.cells (cs.setIfInBounds c v) e (0,0)):=by
 simp[World.setCell,Array.getElem?_modify,h]
def Vk(hm:Jj m w)(hs:GSat m w G){i b c:Nat}{row:List SV}{v:Value}{x:SV}(hd:m.d i=some b)(hr:G[i]?=some row)(Rh:Kj row=false)(hc:c<row.length)(hx:Rep m v x)(ho:v.oneCell'=true):EffM m w m (w.setCell ⟨b,c,none⟩ v) (G.set i (row.set c x)):=by
 have hi:i<G.length:=by
  obtain⟨h,_⟩:=q_jm.1 hr;exact h
 cases hs.row i row b hr hd with
 |map=>cases Rh
 |cells _ cs e Pk Bi Fd Gn=>
  refine⟨.refl _,fun _ _ _=>rfl,⟨fun b' j v' h=>?_,fun b' h=>?_⟩,⟨fun j=>by rw[q_ki];exact hs.dom j,hs.inj,fun j r b' Fu hj=>?_,hs.free⟩,fun i b h=>.inl h,rfl,rfl,rfl,Nat.le_of_eq (Bht _ _ _).symm,fun k hk hn=>heap_set (fun e=>hn i (by rw[e];exact hd))⟩
  ·have Bn:b'≠b:=fun e=>by
    subst e;rw[hs.free i b' j hd] at h;cases h
   rw[Fq (.inl Bn)];exact hm.1 b' j v' h
  ·by_cases hb:b'=b
   ·subst hb;exact⟨_,_,Atn Pk⟩
   ·obtain⟨c',e',h1⟩:=hm.2 b' h;exact⟨c',e',by rw[heap_set hb];exact h1⟩
  ·by_cases Oh:j=i
   ·subst Oh;rw[hd] at hj;cases hj;rw[q_jq hi] at Fu;cases Fu;refine .cells _ _ e (Atn Pk) (by simpa using Bi) (fun k v' x' Bq Bu=>?_) (fun k v' Bq=>?_)
    ·rw[Array.getElem?_setIfInBounds] at Bq;split at Bq
     ·rename_i hck;subst hck;rw[q_jq hc] at Bu;split at Bq
      ·cases Bq;cases Bu;exact⟨hx,ho⟩
      ·cases Bq
     ·rename_i hck;rw[q_jc hck] at Bu;exact Fd k v' x' Bq Bu
    ·rw[Array.getElem?_setIfInBounds] at Bq;split at Bq
     ·split at Bq
      ·cases Bq;exact ho
      ·cases Bq
     ·exact Gn k v' Bq
   ·rw[q_jc (Ne.symm Oh)] at Fu;have hbb:b'≠b:=fun e=>by
     subst e;exact Oh (hs.inj _ _ _ hj hd)
    exact (hs.row j r b' Fu hj).mono (.refl _) (heap_set hbb)
def caps2{vs:List Value}{x1 x2:SV}(h:q9 m vs [x1,x2]):∃v1 v2,vs=[v1,v2]/\Rep m v1 x1/\Rep m v2 x2:=by
 obtain⟨h1,h2⟩:=h
 match vs,h1 with
 |[v1,v2],_=>exact⟨v1,v2,rfl,h2 0 v1 x1 rfl rfl,h2 1 v2 x2 rfl rfl⟩
def Yt(hs:GSat m w G){i b:Nat}{row:List SV}(hd:m.d i=some b)(hr:G[i]?=some row)(Rh:Kj row=false):∃cs e,w.heap[b]?=some (.cells cs e (0,0))/\∀(c:Nat) x,row[c]?=some x->∃v,cs[c]?=some v/\Rep m v x:=by
 cases hs.row i row b hr hd with
 |map=>cases Rh
 |cells _ cs e Pk Bi Fd Gn=>
  refine⟨cs,e,Pk,fun c x hx=>?_⟩;have hc:c<row.length:=by
   obtain⟨h,_⟩:=q_jm.1 hx;exact h
  have hv:cs[c]?=some cs[c]:=Array.getElem?_eq_getElem (by omega);exact⟨_,hv,(Fd c _ x hv hx).1⟩
def Aym(i1 i2:Nat):r8 Tryz.prog 50 [.gp i1 0,.gp i2 0] G G:=by
 intro m w vs hm hs hc;refine (Baz vs.toArray w (by simpa using hc.1)).mono ?_;rintro e u' w' ⟨rfl,rfl,rfl⟩;exact⟨rfl,rfl,m,.id hm hs⟩
def Ayh(i1 i2:Nat):r8 Tryz.prog 18 [.gp i1 0,.gp i2 0] G G:=by
 intro m w vs hm hs hc;refine (Bay vs.toArray w (by simpa using hc.1)).mono ?_;rintro e u' w' ⟨rfl,rfl,rfl⟩;exact⟨rfl,rfl,m,.id hm hs⟩
def Ayl{i1 i2:Nat}{p:Bool}{q:Bool}(h1:G[i1]?=some [.bool p])(h2:G[i2]?=some [.bool q])(Bn:i1≠i2):Acg Tryz.prog 50 [.gp i1 0,.gp i2 0] (.ife 48) G ((G.set i1 [.bool false]).set i2 [.bool false]):=by
 intro m w vs v old Jb hm hs hc hv;obtain⟨v1,v2,rfl,r1,r2⟩:=caps2 hc;obtain⟨b1,rfl,d1⟩:=Rz r1;obtain⟨b2,rfl,d2⟩:=Rz r2;have:=Afp hv;subst this;obtain⟨cs1,e1,k1,q1⟩:=Yt hs d1 h1 rfl;obtain⟨cs2,e2,k2,q2⟩:=Yt hs d2 h2 rfl;obtain⟨u1,g1,_⟩:=q1 0 _ rfl;obtain⟨u2,g2,_⟩:=q2 0 _ rfl;refine (Bgs w b1 b2 cs1 cs2 e1 e2 k1 k2 u1 u2 g1 g2 (fun e=>Bn (hs.inj _ _ _ d1 (by rw[e];exact d2))) old).mono ?_;rintro e u' w' ⟨rfl,rfl,w1,hb,rfl⟩;have f1:=Ac5 hm hs hb;have f2:=Vk f1.ok f1.sat (c:=0) d1 h1 rfl (by simp) (.bool false) rfl;have f3:=Vk f2.ok f2.sat (c:=0) d2 ((q_jc Bn).trans h2) rfl (by simp) (.bool false) rfl;exact⟨rfl,rfl,m,f1.trans (f2.trans f3)⟩
def Ayg{i1 i2:Nat}{p:Bool}{q:Int}(h1:G[i1]?=some [.bool p])(h2:G[i2]?=some [.int .i64 q])(Bn:i1≠i2):Acg Tryz.prog 18 [.gp i1 0,.gp i2 0] (.ife 48) G ((G.set i1 [.bool false]).set i2 [.int .i64 6]):=by
 intro m w vs v old Jb hm hs hc hv;obtain⟨v1,v2,rfl,r1,r2⟩:=caps2 hc;obtain⟨b1,rfl,d1⟩:=Rz r1;obtain⟨b2,rfl,d2⟩:=Rz r2;have:=Afp hv;subst this;obtain⟨cs1,e1,k1,q1⟩:=Yt hs d1 h1 rfl;obtain⟨cs2,e2,k2,q2⟩:=Yt hs d2 h2 rfl;obtain⟨u1,g1,_⟩:=q1 0 _ rfl;obtain⟨u2,g2,_⟩:=q2 0 _ rfl;refine (Bgr w b1 b2 cs1 cs2 e1 e2 k1 k2 u1 u2 g1 g2 (fun e=>Bn (hs.inj _ _ _ d1 (by rw[e];exact d2))) old).mono ?_;rintro e u' w' ⟨rfl,rfl,w1,hb,rfl⟩;have f1:=Ac5 hm hs hb;have f2:=Vk f1.ok f1.sat (c:=0) d1 h1 rfl (by simp) (.bool false) rfl;have f3:=Vk f2.ok f2.sat (c:=0) d2 ((q_jc Bn).trans h2) rfl (by simp) (.int .i64 6) rfl;exact⟨rfl,rfl,m,f1.trans (f2.trans f3)⟩
def Ajs{s mo se g:Int}{j i1 mm:Nat}(hs:GSat m w G){b1:Nat}(d1:m.d i1=some b1)(h1:G[i1]?=some [.gp mm 0])(h:G[mm]?=some (Bx s mo se g j)) :
  ∃c1 e1 cm em bm vm,w.heap[b1]?=some (.cells c1 e1 (0,0))/\w.heap[bm]?=some (.cells cm em (0,0))/\c1[0]?=some (.pointer (some ⟨bm,0,none⟩))/\cm[3]?=some vm/\m.d mm=some bm:=by
 obtain⟨c1,e1,k1,q1⟩:=Yt hs d1 h1 rfl;obtain⟨u1,g1,r1⟩:=q1 0 _ rfl;obtain⟨bm,rfl,dm⟩:=Rz r1;obtain⟨cm,em,k2,q2⟩:=Yt hs dm h rfl;obtain⟨vm,g2,_⟩:=q2 3 _ rfl;exact⟨c1,e1,cm,em,bm,vm,k1,k2,g1,g2,dm⟩
def Ayk{s mo se g:Int}{j i1 i2 mm:Nat}(h1:G[i1]?=some [.gp mm 0])(h:G[mm]?=some (Bx s mo se g j)):r8 Tryz.prog 114 [.gp i1 0,.gp i2 0] G (G.set mm (Bx s mo se 0 j)):=by
 intro m w vs hm hs hc;obtain⟨v1,v2,rfl,r1,r2⟩:=caps2 hc;obtain⟨b1,rfl,d1⟩:=Rz r1;obtain⟨c1,e1,cm,em,bm,vm,a1,a2,a3,a4,dm⟩:=Ajs hs d1 h1 h;refine (Bgy w b1 bm v2 c1 cm e1 em a1 a2 vm a3 a4).mono ?_;rintro e u' w' ⟨rfl,rfl,rfl⟩;exact⟨rfl,rfl,m,Vk hm hs (c:=3) dm h rfl (by simp[Bx]) (.int _ _) rfl⟩
def Ayi{s mo se g:Int}{j i1 i2 mm:Nat}{q:Bool}(h1:G[i1]?=some [.gp mm 0])(h2:G[i2]?=some [.bool q])(Bn:mm≠i2)(h:G[mm]?=some (Bx s mo se g j)):Acg Tryz.prog 114 [.gp i1 0,.gp i2 0] (.ife 123) G ((G.set mm (Bx s mo se 0 j)).set i2 [.bool false]):=by
 intro m w vs v old Jb hm hs hc hv;obtain⟨v1,v2,rfl,r1,r2⟩:=caps2 hc;obtain⟨b1,rfl,d1⟩:=Rz r1;obtain⟨b2,rfl,d2⟩:=Rz r2;have:=Afp hv;subst this;obtain⟨c1,e1,cm,em,bm,vm,a1,a2,a3,a4,dm⟩:=Ajs hs d1 h1 h;obtain⟨cs2,e2,k2,q2⟩:=Yt hs d2 h2 rfl;obtain⟨u2,g2,_⟩:=q2 0 _ rfl;refine (A7t w b1 bm b2 c1 cm e1 em a1 a2 vm a3 a4 cs2 e2 k2 u2 g2 (fun e=>Bn (hs.inj _ _ _ dm (by rw[<-e];exact d2))) old).mono ?_;rintro e u' w' ⟨rfl,rfl,w1,hb,rfl⟩;have f1:=Vk hm hs (c:=3) dm h rfl (by simp[Bx]) (.int .i64 0) rfl;have f2:=Ac5 f1.ok f1.sat hb;have f3:=Vk f2.ok f2.sat (c:=0) d2 ((q_jc Bn).trans h2) rfl (by simp) (.bool false) rfl;exact⟨rfl,rfl,m,f1.trans (f2.trans f3)⟩
def Ayj{s mo se g:Int}{j i1 i2 mm:Nat}(h1:G[i1]?=some [.gp mm 0])(h:G[mm]?=some (Bx s mo se g j)):Ali Tryz.prog 114 [.gp i1 0,.gp i2 0] (.ife 48) (.ife 48) G (G.set mm (Bx s mo se 0 j)):=by
 intro m w vs v old Jb hm hs hc hv;obtain⟨v1,v2,rfl,r1,r2⟩:=caps2 hc;obtain⟨b1,rfl,d1⟩:=Rz r1;have:=Afp hv;subst this;obtain⟨c1,e1,cm,em,bm,vm,a1,a2,a3,a4,dm⟩:=Ajs hs d1 h1 h;refine (Bel w b1 bm v2 c1 cm e1 em a1 a2 vm a3 a4 old).mono ?_;rintro e u' w' ⟨rfl,rfl,hb⟩;have f1:=Vk hm hs (c:=3) dm h rfl (by simp[Bx]) (.int .i64 0) rfl;have f2:=Ac5 f1.ok f1.sat hb;exact⟨rfl,m,oV,f1.trans f2,.ife _,rfl⟩
end
open Go Go.Proofs Go.Proofs.YtgdkddjdhijfnaaGreatDoor
def af9:AF:=⟨28,[(.cell 6 false 1),(.cell 7 false 1)],(Ab [oP 3 (.box (.t 0)),oP 4 (.box (.t 1)),oP 6 (.new [(.bool false)]),oP 7 (.new [(iS 0)])] (.seq (Ab [oP 9 (Ak 5 3),oP 10 (.call 17 [(.t 9)]),oP 11 (.un .not (.t 10)),Aa 12 11,oG 13 12 false 0 (Ak 5 4),oG 14 12 false 0 (.call 17 [(.t 13)]),oG 15 12 false 0 (.un .not (.t 14)),oP 16 (Bf 12 15)] (Ae 16 (Ab [oN (.store 1 (.t 6) (cB false)),oN (.store 1 (.t 7) (cI 1))] .ret) .skip)) (Ab [oP 17 (.mv (cB true)),oN (.un .not (.t 17)),oP 17 (.mv (.c .J))] (Ab [Aa 18 2,oP 19 (.call 19 [(.t 18)]),Aa 8 19] (.seq (.cut (.reg [Aa 20 8,⟨(some 21),(.hcall 20 [(.t 20)]),none,1,true,[]⟩,⟨(some 22),(Ak 5 3),none,2,false,[1]⟩,⟨(some 23),(.hcall 22 [(.t 22),(.c .nilp)]),none,3,true,[]⟩,⟨(some 24),(Ak 5 4),none,4,false,[1,3]⟩,oI 25 5 (.hcall 22 [(.t 24),(.c .nilp)]),oI 26 6 (mT 8)] true) (.cut (Ar [⟨(some 27),(.hcall 21 [(.t 21),(.t 23),(.t 25),(cI 0),(.t 26)]),none,7,false,[7]⟩]) (.reg [oJ 8 (Al 1 6 27),oJ 9 (.store 1 (.t 7) (cI 0))] true))) .ret)))))⟩
def tr9:Ab8 Tryz.prog Tryz.f9=some (af9,17,18,[6,7],2):=by kernel_rfl
attribute [go_sem] af9
def af32:AF:=⟨21,[(.cell 10 false 1),(.cell 11 false 1)],(Ab [oP 10 (.new [(.bool false)]),oP 11 (.new [(.bool false)])] (Ab [oP 12 (.mv (cB true)),oN (.un .not (.t 12)),oP 12 (.mv (.c .J))] (Ab [Aa 13 0,Aa 14 4,oP 15 (.hcall 33 [(.t 13),(.t 14)])] (Ab [Aa 16 0,Aa 17 1,Aa 18 2,Aa 19 3,oP 20 (.hcall 51 [(.t 16),(.t 17),(.t 18),(.t 19),(cB true)]),oN (Al 1 10 20),oN (.store 1 (.t 11) (cB true))] .ret))))⟩
def tr32:Ab8 Tryz.prog Tryz.f32=some (af32,12,50,[10,11],1):=by kernel_rfl
attribute [go_sem] af32
def af97:AF:=⟨28,[(.cell 8 false 1)],(Ab [oP 4 (.box (.t 0)),oP 8 (.new [(.bool false)])] (.seq (Ab [oP 9 (Ad 4),oP 10 (Ah 9),oP 11 (Ac 3 10),oP 12 (Ad 11),oP 13 (An .gtr 12 0)] (Ae 13 (Ab [oP 14 (Ad 4),Aa 15 1,Aa 16 2,Aa 17 3,oP 18 (.hcall 112 [(.t 14),(.t 15),(.t 16),(.t 17),(cB false)]),oN (Al 1 8 18)] .ret) .skip)) (Ab [oP 19 (Ad 4),oP 20 (Ah 19),oP 21 (Ac 3 20),oN (.store 1 (.t 21) (cI 3000))] (Ab [oP 22 (.mv (cB true)),oN (.un .not (.t 22)),oP 22 (.mv (.c .J))] (Ab [oP 23 (Ad 4),Aa 24 1,Aa 25 2,Aa 26 3,oP 27 (.hcall 112 [(.t 23),(.t 24),(.t 25),(.t 26),(cB false)]),oN (Al 1 8 27)] .ret)))))⟩
def tr97:Ab8 Tryz.prog Tryz.f97=some (af97,22,114,[4,8],3):=by kernel_rfl
attribute [go_sem] af97
open Go Go.RowKit Go.Proofs.YtgdkddjdhijfnaaGreatDoor
def Aq0(cap:Array Value)(w:World):(invoke (.fn (.func 114) cap) #[]).run Tryz.prog w=.ok (.enter 114 cap) w:=by simp[go_sem]
def Ate{k i:Nat}{b:Bool}{sl:List SV}{G:GV}{T:HOut->GV->Prop}(h:sl.getD k .undef=.gp i 0)(hG:G[i]?=some [.bool b])(hT:T (.ret (.bool b)) G):Ii [.cell k false 1] T ⟨sl,[gOb G]⟩:=by
 unfold Ii Km Uu;rw[q_j] at h;simp[h,hG,Km,go_sem,seval];exact hT
section
variable{m j:Nat}{G:GV}{T:HOut->GV->Prop}{s mo se g D:Int}{x y:Vl}
def Bfb(hG:G[m]?=some (Bx s mo se g j))(hg:0<g)(h:Ib 112 G [.gp m 0,vlV x,vlV y,.int .i64 D,.bool false] T (Rs T)) :
  Dd 97 G [.gp m 0,vlV x,vlV y,.int .i64 D] T:=by
 refine Aec mixed Tryz.func97 tr97 [(4,.gp 0 0),(8,.gp 0 0)] rfl (by simp) (by simp) Aq0 ?_;have hb:decide (g > 0)=true:=q_jn hg;simp only[go_sem,seval,hG,Bx,hb];refine Qi h fun c G4 k4=>?_
 simp only[go_sem,seval];exact k4
def plG(G:GV)(m:Nat)(s mo se:Int)(j:Nat):GV:=G.set m (Bx s mo se 3000 j)++[[.gp m 0]]++[[.bool false]]
def Bfc(hG:G[m]?=some (Bx s mo se 0 j)){T1:HOut->GV->Prop}(h:Dd 112 (plG G m s mo se j) [.gp m 0,vlV x,vlV y,.int .i64 D,.bool false] T1)
  (Cc:∀o G3,T1 o G3->∃s' mo' se' g',G3[m]?=some (Bx s' mo' se' g' j)/\G3[G.length]?=some [.gp m 0]/\G3[G.length+1]?=some [.bool false] /\
   ((∃c,o=.ret (.bool c)/\T (.ret (.bool c)) ((G3.set (G.length+1) [.bool c]).set m (Bx s' mo' se' 0 j)))\/(o=.pan (.ife 123)/\T (.ret (.bool false)) ((G3.set m (Bx s' mo' se' 0 j)).set (G.length+1) [.bool false]))\/(o=.pan (.ife 48)/\T (.pan (.ife 48)) (G3.set m (Bx s' mo' se' 0 j))))) :
  Dd 97 G [.gp m 0,vlV x,vlV y,.int .i64 D] T:=by
 have hml:=Dh hG;refine Aec mixed Tryz.func97 tr97 [(4,.gp G.length 0),(8,.gp (G.length+1) 0)] rfl (by simp) (by simp) Aq0 ?_;simp only[go_sem,seval,hG,Bx];have hlG:∀r:List SV,(G.set m r).length=G.length:=fun r=>q_ki
 refine⟨_,rfl,by simp,by simp[noW],_,.trans (.promo _ 1 _ _ _ rfl rfl rfl rfl rfl rfl (by simp) (by simp) (by simp[Rl,Jr,St.put,vlV]) (fun q ob' h1 h2 h3 h4=>?_)) (.promo _ 2 _ _ _ rfl rfl rfl rfl rfl rfl (by simp) (by simp) (by simp[Rl,Jr,St.put,Dk,vlV]) (fun q ob' h1 h2 h3 h4=>?_)),by simp[St.put,Dk],?_⟩
 ·match q,h1 with
  |0,h1=>cases h1;cases h3
  |1,_=>exact absurd rfl h2
  |2,h1=>cases h1;cases h4
  |q+3,h1=>simp[St.put] at h1
 ·match q,h1 with
  |0,h1=>cases h1;cases h3
  |1,h1=>cases h1;cases h3
  |2,_=>exact absurd rfl h2
  |q+3,h1=>simp[St.put] at h1
 have p1:Dk 2 (G.length+1) (Dk 1 G.length (.ref 1 0 0 0))=.gp G.length 0:=rfl;have p2:Dk 2 (G.length+1) (Dk 1 G.length (.ref 2 0 0 0))=.gp (G.length+1) 0:=rfl;have p3:∀v:Vl,Dk 2 (G.length+1) (Dk 1 G.length (vlV v))=vlV v:=fun _=>rfl
 simp only[go_sem,seval,Nd,hlG,q_jr];generalize hG2:(G.set m [SV.int .i64 s,.int .i64 mo,.int .i64 se,.int .i64 3000,.mp j]++[[SV.gp m 0]]++[[SV.bool false]])=G2;have a1:G2[G.length]?=some [.gp m 0]:=by rw[<-hG2];simp
 have a2:G2[G.length+1]?=some [.bool false]:=by rw[<-hG2];simp
 have h':Dd 112 G2 [.gp m 0,vlV x,vlV y,.int .i64 D,.bool false] T1:=by rw[<-hG2];exact h
 simp only[go_sem,seval,p1,p2,p3,a1,a2];refine Ha h' trivial (fun r G3 h3=>?_) (fun u G3 h3=>?_)
 ·obtain⟨s',mo',se',g',r1,r2,r3,⟨c,e,hT⟩|⟨e,_⟩|⟨e,_⟩⟩:=Cc _ _ h3;rotate_left
  ·cases e
  ·cases e
  cases e;simp only[go_sem,seval,r3];have hl1:G.length+1≠G.length:=by omega
  have hl2:G.length+1≠m:=by omega
  unfold z5;refine⟨by simp,_,_,rfl,Ayk ((q_jc hl1).trans r2) ((q_jc hl2).trans r1),fun sl Fb=>?_⟩;refine Ate (Fb (8,.gp (G.length+1) 0) (by simp)) ?_ hT;rw[q_jc (Ne.symm hl2)];exact Ex r3
 ·obtain⟨s',mo',se',g',r1,r2,r3,⟨c,e,_⟩|⟨e,hT⟩|⟨e,hT⟩⟩:=Cc _ _ h3
  ·cases e
  ·cases e;refine .inl ⟨_,Ayi r2 r3 (by omega) r1,fun sl Fb=>Ate (Fb (8,.gp (G.length+1) 0) (by simp)) (Ex ((q_jc (by omega)).trans r3)) hT⟩
  ·cases e;exact .inr ⟨_,_,Ayj r2 r1,hT⟩
end
structure Kx(Γ Γ':Gh):Prop where
 d:∀id n:Nat,den Γ' id n=den Γ id n
 g:∀(id n:Nat) (g:Ge),Γ[id]?=some (some g)->g.Ok n->Γ'[id]?=some (some g)
 dn:∀(id:Nat) y T,Γ[id]?=some (some (.dn y T))->Γ'[id]?=some (some (.dn y T))
 no:∀id:Nat,Γ[id]?=some none->Γ'[id]?=some none
section
variable{Γ Γ':Gh}{v:Vl}
def Kx.set{i:Nat}{row:List SV}(h:Γ[i]?=some (some (.kp row)))(row':List SV):Kx Γ (Γ.set i (some (.kp row'))):=by
 refine⟨fun id n=>?_,fun id n g hg ho=>?_,fun id y T hg=>?_,fun id hg=>?_⟩
 ·by_cases e:i=id
  ·subst e;unfold den;rw[q_jq (Dh h),h];rfl
  ·unfold den;rw[q_jc e]
 ·rw[q_jc (fun e=>by subst e;rw[h] at hg;cases hg;exact ho)];exact hg
 ·rw[q_jc (fun e=>by subst e;rw[h] at hg;cases hg)];exact hg
 ·rw[q_jc (fun e=>by subst e;rw[h] at hg;cases hg)];exact hg
def Kx.kids(x:Kx Γ Γ'){k:Int}:∀(l:List Nat) (p:Nat),Ec Γ' k p l=Ec Γ k p l:=by
 intro l
 induction l with
 |nil=>intro p;rfl
 |cons a l ih=>intro p;rw[Ec,Ec,x.d,ih]
def Kx.tv(x:Kx Γ Γ'):TV Γ' v=TV Γ v:=by unfold TV;rw[x.kids]
def Kx.vok(x:Kx Γ Γ')(h:VOK Γ v):VOK Γ' v:=by
 cases h with
 |fv l hl=>exact .fv l hl
 |nd h2 h0 hf hl hk=>exact .nd h2 h0 hf hl (fun p id h=>by obtain⟨g,hg,ho⟩:=hk p id h;exact⟨g,x.g _ _ g hg ho,ho⟩)
def Kx.vst(x:Kx Γ Γ')(h:Vst Γ v):Vst Γ' v:=by
 induction h with
 |base h=>exact .base h
 |step hp Br hg hv _ ih=>exact .step hp Br (by rw[x.tv];exact x.dn _ _ _ hg) (x.vok hv) ih
def Kx.wok(x:Kx Γ Γ')(h:WOK Γ v):WOK Γ' v:=⟨x.vok h.ok,x.vst h.st,by rw[x.tv];exact h.hn⟩
def Kx.eok(x:Kx Γ Γ'){K:Nat}{e:List Nat}{es:List Tm}(h:EOK Γ K e es):EOK Γ' K e es:=
 ⟨h.len,fun q i hq=>by obtain⟨h1,g,h2,h3,h4⟩:=h.at_ q i hq;exact⟨h1,g,x.g _ _ g h2 h3,h3,h4⟩⟩
def Kx.thok(x:Kx Γ Γ'){G G':GV}{id:Nat}{th:Th}{g:Ge}(h:ThOK G Γ id th g)(hG:G'[id]?=G[id]?):ThOK G' Γ' id th g:=by
 cases g with
 |cl t es=>
  obtain⟨h1,h2,h3,h4,h5⟩:=h;exact⟨by rw[hG];exact h1,h2,h3,x.eok h4,fun v hv=>by obtain⟨w,n,hr⟩:=h5 v hv;exact⟨x.wok w,n,by rw[x.tv];exact hr⟩⟩
 |dn y T=>
  obtain⟨h1,h2,h3,h4,h5⟩:=h;exact⟨by rw[hG];exact h1,h2,h3,x.wok h4,by rw[x.tv];exact h5⟩
 |kp row=>exact⟨by rw[hG];exact h.1,h.2⟩
def Kx.vc(x:Kx Γ Γ'){S:SyT}{th:Th}{g:Ge}(h:VC S Γ th g):VC S Γ' th g:=fun v hv=>by
 obtain⟨w,hn,n,hr⟩:=h v hv;exact⟨x.wok w,by rw[x.tv];exact hn,n,by rw[x.tv];exact hr⟩
end
section
variable{S:SyT}{m j:Nat}{G:GV}{Γ Γ0:Gh}{M:Mc}
def Gx.set{i:Nat}{y:Option Ge}(x:Gx Γ0 Γ)(h:Γ0.length<=i):Gx Γ0 (Γ.set i y):=by
 obtain⟨Δ,rfl⟩:=x;exact⟨Δ.set (i - Γ0.length) y,by rw[List.set_append_right _ _ h]⟩
def RInv.kp_set(h:RInv S m j G Γ M){i:Nat}{row:List SV}(hi:Γ[i]?=some (some (.kp row)))(row':List SV):RInv S m j (G.set i row') (Γ.set i (some (.kp row'))) M:=by
 have x:=Kx.set hi row';have hm:i≠m:=fun e=>by subst e;rw[h.gm] at hi;cases hi
 have hj:i≠j:=fun e=>by subst e;rw[h.gj] at hi;cases hi
 obtain⟨l,hl,hE⟩:=h.map;refine⟨by rw[q_ki,q_ki];exact h.len,by rw[q_jc hm];exact h.mc,x.no _ h.gm,x.no _ h.gj,h.mj,⟨l,by rw[q_jc hj];exact hl,fun p hp=>?_⟩,fun id g hg=>?_,h.st,h.mo,h.se,h.gu⟩
 ·rcases hE p hp with e|⟨s,id,h1,h2,h3,h4⟩
  ·exact .inl e
  ·exact .inr ⟨s,id,h1,h2,x.no _ h3,by rw[q_jc (fun e=>by subst e;rw[hi] at h3;cases h3)];exact h4⟩
 ·by_cases e:i=id
  ·subst e;rw[q_jq (Dh hi)] at hg;cases hg;exact⟨⟨.mk 0 0 0 0 [],[],false,none,none⟩,⟨by rw[q_jq (by rw[h.len];exact Dh hi)],rfl⟩,fun v hv=>by cases hv⟩
  ·rw[q_jc e] at hg;obtain⟨th,h1,h2⟩:=h.rows id g hg;exact⟨th,x.thok h1 (q_jc e),x.vc h2⟩
def RInv.pushK(h:RInv S m j G Γ M)(r:List SV):RInv S m j (G++[r]) (Γ++[some (.kp r)]) M:=by
 have lt:∀{id:Nat} {r':List SV},G[id]?=some r'->(G++[r])[id]?=some r':=fun h=>by rw[q_jf (Dh h)];exact h
 obtain⟨l,hl,hE⟩:=h.map;refine⟨by simp[h.len],lt h.mc,(Gx.app _ _).get h.gm,(Gx.app _ _).get h.gj,h.mj,⟨l,lt hl,fun p hp=>EntOK.mono (hE p hp) (.app _ _) (fun s id' h1 h2=>lt h2)⟩,fun id' g' Fo=>?_,h.st,h.mo,h.se,h.gu⟩;rcases q_jo id' Γ.length with Ag|Fy
 ·rw[q_jf Ag] at Fo;obtain⟨th,h1,h2⟩:=h.rows id' g' Fo;exact⟨th,h1.mono (.app _ _) (by rw[q_jf (by rw[h.len];exact Ag)]),h2.mono (.app _ _)⟩
 ·have:id'=Γ.length:=by
   have:=Dh Fo;simp at this;omega
  subst this;simp only[List.getElem?_concat_length,q_b] at Fo;subst Fo;exact⟨⟨.mk 0 0 0 0 [],[],false,none,none⟩,⟨by rw[<-h.len];simp,rfl⟩,fun v hv=>by cases hv⟩
def RInv.box2(h:RInv S m j G Γ M)(r1 r2:List SV):∃Γ',RInv S m j (G++[r1]++[r2]) Γ' M/\Gx Γ Γ'/\Γ.length+2=Γ'.length/\Γ'[G.length]?=some (some (.kp r1))/\Γ'[G.length+1]?=some (some (.kp r2)):=
 ⟨_,(h.pushK r1).pushK r2,(Gx.app _ _).trans (.app _ _),by simp,by rw[h.len];simp,by rw[h.len];simp⟩
def Bfd(hB:Bz S.B){F:Nat}(hS:Xc S m j F):s6 S m j F:=by
 intro G Γ M x y d hI h8 hF hd hx hy
 by_cases hg:M.guess=0
 ·obtain⟨steps,most,seen,guess⟩:=M;simp only at hg h8 hF hd;subst hg;have i1:=hI.mach ⟨steps,most,seen,3000⟩ hI.st hI.mo hI.se (q_ja _);obtain⟨Γ3,i3,x3,l3,k1,k2⟩:=i1.box2 [.gp m 0] [.bool false];rw[q_ki] at k1 k2;have Av:=hI.len;have hq:=Aet (eta:=false) hB hS i3 h8 hF hd (hx.ok.mono x3) (hy.ok.mono x3) (fun h=>by cases h);refine Bfc (s:=steps) (mo:=most) (se:=seen) (j:=j) hI.mc hq (fun o G3 h3=>?_);rw[El x3 hx.ok,El x3 hy.ok] at h3;cases h3 with
  |@ret _ Γ4 M4 c x4 i4 m4 s4 Jl e4=>
   refine⟨M4.steps,M4.most,M4.seen,M4.guess,i4.mc,i4.keep (x4.get k1),i4.keep (x4.get k2),.inl ⟨c,rfl,?_⟩⟩;have i5:=i4.kp_set (x4.get k2) [.bool c];have i6:=i5.mach ⟨M4.steps,M4.most,M4.seen,0⟩ i4.st i4.mo i4.se (Nat.zero_le _);exact .ret ((x3.trans x4).set (by omega)) i6 ⟨m4.most,m4.steps,fun _=>rfl⟩ s4 Jl e4
  |@far _ Γ4 M4 x4 i4 m4 s4 Jl hg4=>
   refine⟨M4.steps,M4.most,M4.seen,M4.guess,i4.mc,i4.keep (x4.get k1),i4.keep (x4.get k2),.inr (.inl ⟨rfl,?_⟩)⟩;have i5:=i4.mach ⟨M4.steps,M4.most,M4.seen,0⟩ i4.st i4.mo i4.se (Nat.zero_le _);have i6:=i5.kp_set (x4.get k2) [.bool false];exact .ret ((x3.trans x4).set (by omega)) i6 ⟨m4.most,m4.steps,fun _=>rfl⟩ s4 Jl .no
  |@out _ Γ4 M4 x4 i4 m4=>
   refine⟨M4.steps,M4.most,M4.seen,M4.guess,i4.mc,i4.keep (x4.get k1),i4.keep (x4.get k2),.inr (.inr ⟨rfl,?_⟩)⟩;have i5:=i4.mach ⟨M4.steps,M4.most,M4.seen,0⟩ i4.st i4.mo i4.se (Nat.zero_le _);exact .out (x3.trans x4) i5 ⟨m4.most,m4.steps,fun _=>rfl⟩
 ·exact Bfb hI.mc (show (0:Int)<(M.guess:Int) by omega) (Yu (Aet hB hS hI h8 hF hd hx.ok hy.ok (fun h=>by cases h)) fun out G' h=>h)
def Bhj(L:Lib S)(hB:Bz S.B):∀F,Xc S m j F:=by
 intro F
 induction F with
 |zero=>exact Ati L hB (fun F' e=>by cases e)
 |succ F ih=>exact Ati L hB (fun F' e=>by cases e;exact⟨Bah hB ih,Bfd hB ih⟩)
end
end Go.Proofs.YtgdkddjdhijfnaaGreatDoor.Abs
