import Derived.Test.YtdpigpopcbjkmaaGreatDoorXRw
import Derived.Test.YtdpigpopcbjkmaaGreatDoorXEv
import Derived.Test.YtdpigpopcbjkmaaGreatDoorProg
import Derived.KernelRfl
import Derived.Test.YtdpigpopcbjkmaaGreatDoorChecked
import Derived.WalkKit
import Derived.WalkLawsBesides
import Derived.Defers
import Derived.Recover
import Derived.Test.YtdpigpopcbjkmaaGreatDoorXFg
import Derived.Test.YtdpigpopcbjkmaaGreatDoorXAfB
import Derived.Test.YtdpigpopcbjkmaaGreatDoorXBi
set_option linter.unusedSimpArgs false
set_option linter.unusedVariables false
set_option maxRecDepth 20000
set_option maxHeartbeats 4000000
namespace Go.Proofs.YtdpigpopcbjkmaaGreatDoor.Abs
open Go Go.RowKit Go.Proofs.YtdpigpopcbjkmaaGreatDoor
def zrT:List SV:=[.int .i64 0,.int .i64 0,.int .i64 0,.int .i64 0,.nils]
def rR(L:Nat)(done:List Tm):GV:=done.map tv++List.replicate (L-done.length) zrT
theorem Bd0{L:Nat}{done:List Tm}(h:done.length<=L):(rR L done).length=L:=by
 unfold rR;simp;omega
theorem Bd2{L:Nat}{done:List Tm}(h:done.length<L)(r:Tm):(rR L done).set done.length (tv r)=rR L (done++[r]):=by
 unfold rR;obtain⟨d,hd⟩:∃d,L-done.length=d+1:=⟨L-done.length-1,by omega⟩
 have e:L-(done++[r]).length=d:=by simp;omega
 rw[hd,e,List.replicate_succ,List.set_append_right _ _ (by simp)];simp
theorem Bdz{rs:List Tm}{L:Nat}(h:rs.length=L):rR L rs=rs.map tv:=by
 unfold rR;rw[h,Nat.sub_self];simp
theorem Bd1{L:Nat}:rR L []=List.replicate L [.int .i64 0,.int .i64 0,.int .i64 0,.int .i64 0,.nils]:=by simp[rR,zrT]
def rS(m:Nat)(e:List Nat)(own deep:Int)(k i' j n:Int)(l:List Tm)(i:Nat)(b:SV)(G:GV)(done:List Tm):St:=
 ⟨(.gp m 0::.J::Aw e::.int .i64 own::.int .i64 deep::.J::.ref 1 0 0 0::.J::.J::.J::.ref 2 0 0 0::.J::.osl 3 0 0 l.length::.J::.J::.J::.J::.J::.J::.J::.J::.J::.J::.J::.J::.J::.J::.J::.J::.J::.J::.J::.J::.J::.J::.J::.J::.J::.J::.J::.J::.J::.J::.J::.J::.J::.J::.J::.J::.J::.J::.J::.J::.J::.J::.J::.J::.J::.J::.J::.dsl 5 (l.map tv)::.int .i64 l.length::.int .i64 i::b::.J::.J::.J::.J::.J::.J::.J::.J::.J::.J::.J::.J::.J::.J::.J::.J::.J::.J::.J::.J::.J::[]),[gOb G,⟨true,5,[[.int .i64 k,.int .i64 i',.int .i64 j,.int .i64 n,.dsl 5 (l.map tv)]],0,0,true⟩,⟨true,5,[[.int .i64 0,.int .i64 0,.int .i64 0,.int .i64 0,.nils]],0,0,true⟩,⟨false,5,rR l.length done,0,0,true⟩]⟩
section
variable{m:Nat}{e:List Nat}{own deep k i' j n:Int}{l:List Tm}{X:SV->GV->Prop}{Q:AE->St->Prop}
theorem Afs{q:Nat}(Ah:l.length<=100)(Hb:∀p,fit (own+(bnd k p:Nat))){G G2:GV}{out:HOut}{done:List Tm}(hp:done.length<l.length)
  (hq:Ad 66 G [.gp m 0,.agg true (tv l[done.length]),Aw e,.int .i64 (own+(bnd k done.length:Nat)),.int .i64 deep] out G2)
  (ho:(∃r,out=.ret (.agg true (tv r))/\vcI (Av Tryz.prog X) a66_39 Q q (rS m e own deep k i' j n l (done.length+1) .J G2 (done++[r])))\/∃u,out=.pan u/\X u G2) :
  vcI (Av Tryz.prog X) a66_39 Q (q+1) (rS m e own deep k i' j n l done.length .J G done):=by
 have e0:(0:Int)<=(done.length:Int):=by omega
 have e1:(done.length:Int)<(l.length:Int):=by omega
 have hw:=w64 (Hb done.length);have Jc:IntKind.i64.wrap ((done.length:Int)+1)=((done.length+1:Nat):Int):=by rw[w64 (by unfold fit;omega)];omega
 have Tt:=Acy k done.length;have hg:(l.map tv)[done.length]?.getD []=tv l[done.length]:=by rw[List.getElem?_map,q_f hp];rfl
 have hz:=Af l[done.length];have hrl:=Bd0 (L:=l.length) (done:=done) (by omega);have Ox:=Bd2 hp;refine Ak ?_;simp only[rS];simp only[go_sem,seval,e0,e1,hp,hg,hz,decide_eq_true e1,q_g];refine Aa Tt ?_;simp only[go_sem,seval,hw,hz];rcases ho with⟨r,rfl,this⟩|⟨u,rfl,hx⟩
 ·have Qp:=Af r;refine Ac hq ?_;simp only[rS] at this;simp only[go_sem,seval,Jc,Qp,hrl,hp,e0,e1,Ox] at this |-;exact Cr (Dq 4 (by simp[An]) (by simp) (by simp only[List.forall_mem_cons,Ag7];simp[Bb]) (by simp[Bb,gOb])) this
 ·exact Cs hq trivial hx
theorem Be4{G:GV}{rs:List Tm}(hq:Q (.exit 0) (rS m e own deep k i' j n l l.length (.bool false) G rs)) :
  vcI (Av Tryz.prog X) a66_39 Q 1 (rS m e own deep k i' j n l l.length .J G rs):=by
 refine Ak ?_;simp only[rS] at hq |-;simp only[go_sem,seval,decide_eq_false (show ¬((l.length:Nat):Int)<l.length by omega)];exact hq
end
inductive RwR(m:Nat)(e:List Nat)(own deep k:Int):Nat->List Tm->GV->(List Tm ⊕ SV)->GV->Prop
 |nil {p:Nat} {G:GV}:RwR m e own deep k p [] G (.inl []) G
 |pan {p:Nat} {G G1:GV} {t:Tm} {l:List Tm} {u:SV} (h:Ad 66 G [.gp m 0,.agg true (tv t),Aw e,.int .i64 (own+(bnd k p:Nat)),.int .i64 deep] (.pan u) G1):RwR m e own deep k p (t::l) G (.inr u) G1
 |cons {p:Nat} {G G1 G2:GV} {t r:Tm} {l rs:List Tm} (h:Ad 66 G [.gp m 0,.agg true (tv t),Aw e,.int .i64 (own+(bnd k p:Nat)),.int .i64 deep] (.ret (.agg true (tv r))) G1) (hr:RwR m e own deep k (p+1) l G1 (.inl rs) G2):RwR m e own deep k p (t::l) G (.inl (r::rs)) G2
 |late {p:Nat} {G G1 G2:GV} {t r:Tm} {l:List Tm} {u:SV} (h:Ad 66 G [.gp m 0,.agg true (tv t),Aw e,.int .i64 (own+(bnd k p:Nat)),.int .i64 deep] (.ret (.agg true (tv r))) G1) (hr:RwR m e own deep k (p+1) l G1 (.inr u) G2):RwR m e own deep k p (t::l) G (.inr u) G2
theorem RwR.len{m:Nat}{e:List Nat}{own deep k:Int}{p:Nat}{l:List Tm}{G G':GV}{out:List Tm ⊕ SV}(h:RwR m e own deep k p l G out G'):∀rs,out=.inl rs->rs.length=l.length:=by
 induction h with
 |nil=>intro rs e;cases e;rfl
 |pan=>intro rs e;cases e
 |cons _ _ ih=>intro rs e;cases e;simp only[List.length_cons];rw[ih _ rfl]
 |late=>intro rs e;cases e
theorem Ada{l r:List Tm}{p:Nat}{t:Tm}(h:l.drop p=t::r):∃hp:p<l.length,l[p]=t/\l.drop (p+1)=r:=by
 have hp:p<l.length:=by
  rcases Nat.lt_or_ge p l.length with h1|h1
  ·exact h1
  ·rw[List.drop_eq_nil_iff.2 h1] at h;cases h
 rw[List.drop_eq_getElem_cons hp] at h;exact⟨hp,(List.cons.inj h).1,(List.cons.inj h).2⟩
section
variable{m:Nat}{e:List Nat}{own deep k i' j n:Int}{l:List Tm}{X:SV->GV->Prop}{Q:AE->St->Prop}
theorem Be5(Ah:l.length<=100)(Hb:∀p,fit (own+(bnd k p:Nat))){p:Nat}{l':List Tm}{G G':GV}{out:List Tm ⊕ SV}(h:RwR m e own deep k p l' G out G') :
  ∀done:List Tm,done.length=p->l.drop p=l'->p<=l.length->(∀rs,out=.inl rs->Q (.exit 0) (rS m e own deep k i' j n l l.length (.bool false) G' (done++rs)))->(∀u,out=.inr u->X u G') ->
  ∃q,vcI (Av Tryz.prog X) a66_39 Q q (rS m e own deep k i' j n l p .J G done):=by
 induction h with
 |@nil p G=>
  intro done hd hl hp hq _;have h1:l.length<=p:=List.drop_eq_nil_iff.1 hl;have h2:p=l.length:=by omega
  subst h2;have:=hq [] rfl;rw[List.append_nil] at this;exact⟨1,Be4 this⟩
 |@pan p G G1 t l1 u h=>
  intro done hd hl hp hq hx;obtain⟨h1,h2,h3⟩:=Ada hl;subst hd;rw[<-h2] at h;exact⟨1,Afs (q:=0) Ah Hb h1 h (.inr ⟨u,rfl,hx u rfl⟩)⟩
 |@cons p G G1 G2 t r l1 rs h hr ih=>
  intro done hd hl hp hq hx;obtain⟨h1,h2,h3⟩:=Ada hl;subst hd;rw[<-h2] at h;obtain⟨q,hv⟩:=ih (done++[r]) (by simp) h3 (by omega) (fun rs' e=>by
   cases e;have:=hq (r::rs) rfl
   rwa [List.append_assoc,List.singleton_append]) (fun u e=>by cases e)
  exact⟨q+1,Afs Ah Hb h1 h (.inl ⟨r,rfl,hv⟩)⟩
 |@late p G G1 G2 t r l1 u h hr ih=>
  intro done hd hl hp hq hx;obtain⟨h1,h2,h3⟩:=Ada hl;subst hd;rw[<-h2] at h;obtain⟨q,hv⟩:=ih (done++[r]) (by simp) h3 (by omega) (fun rs' e=>by cases e) (fun u' e=>by cases e;exact hx _ rfl);exact⟨q+1,Afs Ah Hb h1 h (.inl ⟨r,rfl,hv⟩)⟩
theorem Bd5{G G1 G2:GV}{rs:List Tm}(h:Ad 58 G [.gp m 0] (.ret (.tup [])) G1)(hk:k≠2)(As:l≠[])(Ah:l.length<=100)(Hb:∀p,fit (own+(bnd k p:Nat)))(hr:RwR m e own deep k 0 l G1 (.inl rs) G2) :
  Ad 66 G [.gp m 0,.agg true (tv (.mk k i' j n l)),Aw e,.int .i64 own,.int .i64 deep] (.ret (.agg true (tv (.mk k i' j n rs)))) G2:=by
 obtain⟨out,ho⟩:∃out,out=HOut.ret (.agg true (tv (.mk k i' j n rs))):=⟨_,rfl⟩
 rw[<-ho];have Dm:(((l.length:Nat):Int)==0)=false:=beq_eq_false_iff_ne.2 (by have:=List.length_pos_iff.2 As;omega);have Me:(l.length:Int)*56<=140737488355328:=by omega
 have Ef:(l.length:Int)<=140737488355328:=by omega
 rw[Am];refine Aq mixed Tryz.func66 tr66 ?_;simp only[go_sem,seval];refine Ac h ?_;simp only[go_sem,seval,Ag hk,Dm,q_g,Me,Ef];refine fun _ _=>⟨⟨by omega,by omega⟩,fun _=>?_⟩
 have hlr:=hr.len rs rfl;refine Exists.elim (Be5 (l:=l) (i':=i') (j:=j) (n:=n) (X:=fun x G1=>out=.pan x/\G1=G2) (Q:=bk 0 (sq (Av Tryz.prog fun x G1=>out=.pan x/\G1=G2) a66_46 (rtG [.cell 10 true 5] out G2))) Ah Hb hr [] rfl (by simp) (Nat.zero_le _) (fun rs' e=>?_) (fun u e=>by cases e)) (fun q hn=>?_)
 ·cases e;subst ho;rw[List.nil_append];simp only[rS,Bdz hlr];rw[Am];simp only[go_sem,seval];rw[List.take_of_length_le (by simp[hlr])]
 ·simp only[rS,Bd1] at hn;simp only[go_sem,seval] at hn;exact Cd q (Cr (Au (by simp[An])) hn)
end
-- a66_46 a45_23 a45_28
def tS(m:Nat)(deep:Int)(v:Vl)(i:Nat)(b:SV)(G:GV):List Tm->St
 |[]=>⟨(.gp m 0::vlV v::.int .i64 deep::.J::.J::.J::.ref 1 0 0 0::.ref 2 0 0 0::.J::.J::.J::.J::.J::.J::.J::.J::.J::.J::.J::.J::.J::.J::.J::.J::.J::.J::.J::.J::.J::.J::.J::.J::.J::.J::.J::.J::.J::.J::.J::.J::.J::.J::Dp v.kids::.int .i64 v.kids.length::.int .i64 i::b::.J::.J::.J::.J::.J::.J::.J::.J::.J::.J::.J::.J::.J::.J::.J::.J::.J::.J::.J::.J::.J::.J::.J::.J::.J::.J::.J::.J::.J::.J::.J::.J::.J::.J::.J::.J::.J::.J::.J::[]),[gOb G,⟨true,5,[[.int .i64 0,.int .i64 0,.int .i64 0,.int .i64 0,.nils]],0,0,true⟩,⟨true,5,[[.int .i64 v.k,.int .i64 v.i,.int .i64 v.j,.int .i64 v.n,.nils]],0,0,true⟩]⟩
 |t::ts=>⟨(.gp m 0::vlV v::.int .i64 deep::.J::.J::.J::.ref 1 0 0 0::.ref 2 0 0 0::.J::.J::.J::.J::.J::.J::.J::.J::.J::.J::.J::.J::.J::.J::.J::.J::.J::.J::.J::.J::.J::.J::.J::.J::.J::.J::.J::.J::.J::.J::.J::.J::.J::.J::Dp v.kids::.int .i64 v.kids.length::.int .i64 i::b::.J::.J::.J::.J::.J::.J::.J::.J::.J::.J::.J::.J::.J::.J::.J::.J::.J::.J::.J::.J::.J::.J::.J::.J::.J::.J::.J::.J::.J::.J::.J::.J::.J::.J::.J::.J::.J::.J::.J::[]),[gOb G,⟨true,5,[[.int .i64 0,.int .i64 0,.int .i64 0,.int .i64 0,.nils]],0,0,true⟩,⟨true,5,[[.int .i64 v.k,.int .i64 v.i,.int .i64 v.j,.int .i64 v.n,.osl 4 ts.length 0 (ts.length+1)]],0,0,false⟩,⟨false,5,[tv t],0,0,true⟩,⟨false,5,(t::ts).map tv,ts.length,ts.length,true⟩]⟩
theorem tS_0{m:Nat}{deep:Int}{v:Vl}{i:Nat}{b:SV}{G:GV}:tS m deep v i b G []=⟨(.gp m 0::vlV v::.int .i64 deep::.J::.J::.J::.ref 1 0 0 0::.ref 2 0 0 0::.J::.J::.J::.J::.J::.J::.J::.J::.J::.J::.J::.J::.J::.J::.J::.J::.J::.J::.J::.J::.J::.J::.J::.J::.J::.J::.J::.J::.J::.J::.J::.J::.J::.J::Dp v.kids::.int .i64 v.kids.length::.int .i64 i::b::.J::.J::.J::.J::.J::.J::.J::.J::.J::.J::.J::.J::.J::.J::.J::.J::.J::.J::.J::.J::.J::.J::.J::.J::.J::.J::.J::.J::.J::.J::.J::.J::.J::.J::.J::.J::.J::.J::.J::[]),[gOb G,⟨true,5,[[.int .i64 0,.int .i64 0,.int .i64 0,.int .i64 0,.nils]],0,0,true⟩,⟨true,5,[[.int .i64 v.k,.int .i64 v.i,.int .i64 v.j,.int .i64 v.n,.nils]],0,0,true⟩]⟩:=q_z
theorem tS_1{m:Nat}{deep:Int}{v:Vl}{i:Nat}{b:SV}{G:GV}{t:Tm}{ts:List Tm}:tS m deep v i b G (t::ts)=⟨(.gp m 0::vlV v::.int .i64 deep::.J::.J::.J::.ref 1 0 0 0::.ref 2 0 0 0::.J::.J::.J::.J::.J::.J::.J::.J::.J::.J::.J::.J::.J::.J::.J::.J::.J::.J::.J::.J::.J::.J::.J::.J::.J::.J::.J::.J::.J::.J::.J::.J::.J::.J::Dp v.kids::.int .i64 v.kids.length::.int .i64 i::b::.J::.J::.J::.J::.J::.J::.J::.J::.J::.J::.J::.J::.J::.J::.J::.J::.J::.J::.J::.J::.J::.J::.J::.J::.J::.J::.J::.J::.J::.J::.J::.J::.J::.J::.J::.J::.J::.J::.J::[]),[gOb G,⟨true,5,[[.int .i64 0,.int .i64 0,.int .i64 0,.int .i64 0,.nils]],0,0,true⟩,⟨true,5,[[.int .i64 v.k,.int .i64 v.i,.int .i64 v.j,.int .i64 v.n,.osl 4 ts.length 0 (ts.length+1)]],0,0,false⟩,⟨false,5,[tv t],0,0,true⟩,⟨false,5,(t::ts).map tv,ts.length,ts.length,true⟩]⟩:=q_z
inductive ToK(m:Nat)(deep:Int)(b id:Nat)(G:GV)(out:HOut)(G':GV):Prop
 |no (hb:b=0) (h:Ad 67 G [.gp m 0,.gp id 0,.int .i64 deep] out G'):ToK m deep b id G out G'
 |yes (hb:0<b) {t:Tm} {e:List Nat} {w v:Option Vl} (hG:G[id]?=some (thR ⟨t,e,false,w,v⟩)) (h:Ad 66 G [.gp m 0,.agg true (tv t),Aw e,.int .i64 b,.int .i64 deep] out G'):ToK m deep b id G out G'
section
variable{m:Nat}{deep:Int}{v:Vl}{X:SV->GV->Prop}{Q:AE->St->Prop}
theorem Af8{n:Nat}(Ah:v.kids.length<=100){p i:Nat}{G G2:GV}{out:HOut}{done:List Tm}(hd:done.length<=100)(hi:v.kids[p]?=some i)
  (hq:ToK m deep (bnd v.k p) i G out G2)
  (ho:(∃r,out=.ret (.agg true (tv r))/\vcI (Av Tryz.prog X) a45_23 Q n (tS m deep v (p+1) .J G2 (done++[r])))\/∃u,out=.pan u/\X u G2) :
  vcI (Av Tryz.prog X) a45_23 Q (n+1) (tS m deep v p .J G done):=by
 obtain⟨k1,k2,k3,k4⟩:=Kk hi;have e0:(0:Int)<=(p:Int):=by omega
 have Jc:IntKind.i64.wrap ((p:Int)+1)=((p+1:Nat):Int):=by rw[w64 (by unfold fit;omega)];omega
 have Ct:(p:Int)<v.kids.length:=k2;have Tt:=Acy v.k p;generalize bnd v.k p=b at *
 refine Ak ?_;cases done with
 |nil=>
  rw[tS_0];simp only[go_sem,seval,vlV,k1,k3,k4,Ct,e0,q_g];refine Aa Tt ?_;cases hq with
  |no hb hq=>
   subst hb;simp only[go_sem,seval];rcases ho with⟨r,rfl,this⟩|⟨u,rfl,hx⟩
   ·refine Ac hq ?_;rw[List.nil_append,tS_1] at this;simp only[go_sem,seval,Jc,Ct,k1,vlV] at this |-;exact Cr (Au (by simp[An])) this
   ·exact Cs hq trivial hx
  |yes hb hG hq=>
   have El:(b:Int) > 0:=by omega
   simp only[go_sem,seval,El,decide_eq_true El,hG,j7,j8,Ab2,Ab1];rcases ho with⟨r,rfl,this⟩|⟨u,rfl,hx⟩
   ·refine Ac hq ?_;rw[List.nil_append,tS_1] at this;simp only[go_sem,seval,Jc,Ct,k1,vlV] at this |-;exact Cr (Au (by simp[An])) this
   ·exact Cs hq trivial hx
 |cons d ds=>
  rw[tS_1];simp only[List.length_cons] at hd;have Ym:(ds.length+1+1)*56<=140737488355328:=by omega
  have Yn:ds.length+1+1<=140737488355328:=by omega
  simp only[go_sem,seval,vlV,k1,k3,k4,Ct,e0,q_g];refine Aa Tt ?_;cases hq with
  |no hb hq=>
   subst hb;simp only[go_sem,seval];rcases ho with⟨r,rfl,this⟩|⟨u,rfl,hx⟩
   ·refine Ac hq ?_;rw[List.cons_append,tS_1] at this;simp only[go_sem,seval,Jc,Ct,k1,vlV,Ym,Yn,q_g,List.map_append] at this |-;exact Cr (Dq 5 (by simp[An]) (by simp) (by simp[Bb]) (by simp[Bb,gOb])) this
   ·exact Cs hq trivial hx
  |yes hb hG hq=>
   have El:(b:Int) > 0:=by omega
   simp only[go_sem,seval,El,decide_eq_true El,hG,j7,j8,Ab2,Ab1];rcases ho with⟨r,rfl,this⟩|⟨u,rfl,hx⟩
   ·refine Ac hq ?_;rw[List.cons_append,tS_1] at this;simp only[go_sem,seval,Jc,Ct,k1,vlV,Ym,Yn,q_g,List.map_append] at this |-;exact Cr (Dq 5 (by simp[An]) (by simp) (by simp[Bb]) (by simp[Bb,gOb])) this
   ·exact Cs hq trivial hx
theorem Bgv{G:GV}{done:List Tm}(hq:Q (.exit 0) (tS m deep v v.kids.length (.bool false) G done)) :
  vcI (Av Tryz.prog X) a45_23 Q 1 (tS m deep v v.kids.length .J G done):=by
 refine Ak ?_;cases done with
 |nil=>
  rw[tS_0] at hq |-;simp only[go_sem,seval,decide_eq_false (show ¬((v.kids.length:Nat):Int)<v.kids.length by omega)];exact hq
 |cons d ds=>
  rw[tS_1] at hq |-;simp only[go_sem,seval,decide_eq_false (show ¬((v.kids.length:Nat):Int)<v.kids.length by omega)];simp only[go_sem,seval] at hq;exact hq
end
inductive ToR(m:Nat)(deep:Int)(k:Int):Nat->List Nat->GV->(List Tm ⊕ SV)->GV->Prop
 |nil {p:Nat} {G:GV}:ToR m deep k p [] G (.inl []) G
 |pan {p i:Nat} {G G1:GV} {l:List Nat} {u:SV} (h:ToK m deep (bnd k p) i G (.pan u) G1):ToR m deep k p (i::l) G (.inr u) G1
 |cons {p i:Nat} {G G1 G2:GV} {r:Tm} {l:List Nat} {rs:List Tm} (h:ToK m deep (bnd k p) i G (.ret (.agg true (tv r))) G1) (hr:ToR m deep k (p+1) l G1 (.inl rs) G2):ToR m deep k p (i::l) G (.inl (r::rs)) G2
 |late {p i:Nat} {G G1 G2:GV} {r:Tm} {l:List Nat} {u:SV} (h:ToK m deep (bnd k p) i G (.ret (.agg true (tv r))) G1) (hr:ToR m deep k (p+1) l G1 (.inr u) G2):ToR m deep k p (i::l) G (.inr u) G2
theorem ToR.len{m:Nat}{deep k:Int}{p:Nat}{l:List Nat}{G G':GV}{out:List Tm ⊕ SV}(h:ToR m deep k p l G out G'):∀rs,out=.inl rs->rs.length=l.length:=by
 induction h with
 |nil=>intro rs e;cases e;rfl
 |pan=>intro rs e;cases e
 |cons _ _ ih=>intro rs e;cases e;simp only[List.length_cons];rw[ih _ rfl]
 |late=>intro rs e;cases e
section
variable{m:Nat}{deep:Int}{v:Vl}{X:SV->GV->Prop}{Q:AE->St->Prop}
theorem Bgw(Ah:v.kids.length<=100){p:Nat}{l':List Nat}{G G':GV}{out:List Tm ⊕ SV}(h:ToR m deep v.k p l' G out G') :
  ∀done:List Tm,done.length=p->v.kids.drop p=l'->p<=v.kids.length->(∀rs,out=.inl rs->Q (.exit 0) (tS m deep v v.kids.length (.bool false) G' (done++rs)))->(∀u,out=.inr u->X u G') ->
  ∃q,vcI (Av Tryz.prog X) a45_23 Q q (tS m deep v p .J G done):=by
 induction h with
 |@nil p G=>
  intro done hd hl hp hq _;have h1:v.kids.length<=p:=List.drop_eq_nil_iff.1 hl;have h2:p=v.kids.length:=by omega
  subst h2;have:=hq [] rfl;rw[List.append_nil] at this;exact⟨1,Bgv this⟩
 |@pan p i G G1 l1 u h=>
  intro done hd hl hp hq hx;obtain⟨h1,h2,h3⟩:=Vt hl;exact⟨1,Af8 (n:=0) Ah (by omega) h1 h (.inr ⟨u,rfl,hx u rfl⟩)⟩
 |@cons p i G G1 G2 r l1 rs h hr ih=>
  intro done hd hl hp hq hx;obtain⟨h1,h2,h3⟩:=Vt hl;obtain⟨q,hv⟩:=ih (done++[r]) (by simp;omega) h2 (by omega) (fun rs' e=>by
   cases e;have:=hq (r::rs) rfl
   rwa [List.append_assoc,List.singleton_append]) (fun u e=>by cases e)
  exact⟨q+1,Af8 Ah (by omega) h1 h (.inl ⟨r,rfl,hv⟩)⟩
 |@late p i G G1 G2 r l1 u h hr ih=>
  intro done hd hl hp hq hx;obtain⟨h1,h2,h3⟩:=Vt hl;obtain⟨q,hv⟩:=ih (done++[r]) (by simp;omega) h2 (by omega) (fun rs' e=>by cases e) (fun u' e=>by cases e;exact hx _ rfl);exact⟨q+1,Af8 Ah (by omega) h1 h (.inl ⟨r,rfl,hv⟩)⟩
variable{G G1:GV}{u:SV}
theorem Bg0{rs:List Tm}(hk:v.k≠2)(As:v.kids≠[])(Ah:v.kids.length<=100)(hr:ToR m deep v.k 0 v.kids G (.inl rs) G1)(Ox:rs≠[]) :
  Ad 45 G [.gp m 0,vlV v,.int .i64 deep] (.ret (.agg true (tv (.mk v.k v.i v.j v.n rs)))) G1:=by
 obtain⟨out,ho⟩:∃out,out=HOut.ret (.agg true (tv (.mk v.k v.i v.j v.n rs))):=⟨_,rfl⟩
 rw[<-ho];refine Aq mixed Tryz.func45 tr45 ?_;simp only[go_sem,seval,vlV,Ag hk,Oe As,q_g];refine fun _=>?_
 refine Exists.elim (Bgw (X:=fun x G2=>out=.pan x/\G2=G1) (Q:=bk 0 (sq (Av Tryz.prog fun x G2=>out=.pan x/\G2=G1) a45_28 (rtG [.cell 6 true 5] out G1))) Ah hr [] rfl (by simp) (Nat.zero_le _) (fun rs' e=>?_) (fun u' e=>by cases e)) (fun n hn=>?_)
 ·cases e;subst ho;rw[List.nil_append];cases rs with
  |nil=>exact absurd rfl Ox
  |cons r ts=>
   rw[tS_1,Am];simp only[go_sem,seval];rw[List.take_of_length_le (by simp)]
 rw[tS_0] at hn;simp only[go_sem,seval] at hn;exact Cd n (Cr (Au (by simp[An,vlV,Oe As])) hn)
end
open Go Go.Proofs Go.Proofs.YtdpigpopcbjkmaaGreatDoor
def af16:AF:=⟨61,[(.t 0)],(sqF [oP 0 (.mv (cB false))] (sqF [oP 8 (.call 37 [(cI 1)]),oP 9 (.build [(iS 0),(iS 0),(iS 0),(iS 0),.nils] [(0,(1,(cI 2)))]),oP 10 (.bslice 5 [(.t 8),(.t 9)]),oP 11 (.build [(iS 0),(iS 0),(iS 0),(iS 0),.nils] [(0,(1,(cI 14))),(4,(1,(.t 10)))]),oP 12 (.call 37 [(cI 0)]),oP 13 (.bslice 5 [(.t 11),(.t 12)]),oP 14 (.build [(iS 0),(iS 0),(iS 0),(iS 0),.nils] [(0,(1,(cI 15))),(4,(1,(.t 13)))]),oP 1 (.new [(iS 0),(iS 0),(iS 0),(iS 0),.nils]),oN (.store 5 (.t 1) (.t 14))] (sqF [oP 16 (.load true 5 (.t 1)),oP 17 (.call 14 [(.t 16),(.c (.float .f64 4607182418800017408))]),oP 15 (mT 17),oP 18 (.ext (.t 15) 0),oP 19 (.ext (.t 15) 1),oP 2 (.new [(iS 0),(iS 0),(iS 0),(iS 0),.nils]),oN (.store 5 (.t 2) (.t 18)),oP 3 (mT 19)] (sqF [oP 21 (.load true 5 (.t 1)),oP 22 (.call 21 [(.t 21),(.c (.float .f64 4607182418800017408))]),oP 20 (mT 22),oP 23 (.ext (.t 20) 0),oP 24 (.ext (.t 20) 1),oP 4 (.new [(iS 0),(iS 0),(iS 0),(iS 0),.nils]),oN (.store 5 (.t 4) (.t 23)),oP 5 (mT 24)] (sqF [oP 26 (.build [(iS 0),(iS 0),(iS 0),(iS 0),.nils] []),oP 27 (.call 14 [(.t 26),(.c (.float .f64 4607182418800017408))]),oP 25 (mT 27),oP 28 (.ext (.t 25) 0),oP 29 (.ext (.t 25) 1),oP 6 (.new [(iS 0),(iS 0),(iS 0),(iS 0),.nils]),oN (.store 5 (.t 6) (.t 28)),oP 7 (mT 29)] (sqF [oP 30 (mT 3),oP 31 (.bin 0 .eql (.t 30) (cI 0)),oP 32 (mT 31),oG 33 32 true 0 (fdT 0 2),oG 34 32 true 0 (ldT 33),oG 35 32 true 0 (.bin 0 .eql (.t 34) (cI 1)),oP 36 (.pick (.t 32) (.t 35) (cB false)),oP 37 (mT 36),oG 38 37 true 0 (fdT 1 2),oG 39 37 true 0 (ldT 38),oG 40 37 true 0 (.bin 0 .eql (.t 39) (cI 0)),oP 41 (.pick (.t 37) (.t 40) (cB false)),oP 42 (mT 41),oG 43 42 true 0 (fdT 4 2),oG 44 42 true 0 (ldT 43),oG 45 42 true 0 (.len false (.t 44)),oG 46 42 true 0 (.bin 0 .eql (.t 45) (cI 0)),oP 47 (.pick (.t 42) (.t 46) (cB false)),oP 48 (mT 47),oG 49 48 true 0 (mT 5),oG 50 48 true 0 (.bin 0 .eql (.t 49) (cI 0)),oP 51 (.pick (.t 48) (.t 50) (cB false)),oP 52 (mT 51),oG 53 52 true 0 (fdT 0 4),oG 54 52 true 0 (ldT 53),oG 55 52 true 0 (.bin 0 .eql (.t 54) (cI 1)),oP 56 (.pick (.t 52) (.t 55) (cB false)),oP 57 (mT 56),oG 58 57 true 0 (mT 7),oG 59 57 true 0 (.bin 0 .eql (.t 58) (cI 1)),oP 60 (.pick (.t 57) (.t 59) (cB false)),oP 0 (mT 60)] .ret))))))⟩
theorem tr16:trF Tryz.prog Tryz.f16=some af16:=by kernel_rfl
attribute [go_sem] af16
def af37:AF:=⟨5,[(.cell 2 true 5)],(sqF [oP 2 (.new [(iS 0),(iS 0),(iS 0),(iS 0),.nils])] (sqF [oP 3 (mT 0),oP 4 (.build [(iS 0),(iS 0),(iS 0),(iS 0),.nils] [(0,(1,(cI 1))),(1,(1,(.t 3)))]),oN (.store 5 (.t 2) (.t 4))] .ret))⟩
theorem tr37:trF Tryz.prog Tryz.f37=some af37:=by kernel_rfl
attribute [go_sem] af37
end Go.Proofs.YtdpigpopcbjkmaaGreatDoor.Abs
namespace Go.Proofs.YtdpigpopcbjkmaaGreatDoor.Nrm
open Go Go.RowKit
theorem Ao9(cap:Array Value)(h:cap.size=2):∃x y,cap=#[x,y]:=by
 obtain⟨l⟩:=cap
 match l,h with
 |[x,y],_=>exact⟨x,y,rfl⟩
theorem idle_norm(cap:Array Value)(w:World)(h:cap.size=2):CallsD Tryz.prog 31 cap .returning w fun e u' w'=>u'=.returning/\e=.returned (.tuple #[])/\w'=w:=by
 obtain⟨x,y,rfl⟩:=Ao9 cap h;refine callsD_of_wpS Tryz.func31 rfl fun c₀ cs hu=>?_
 apply wpS_seq;apply wpS_region;simp[wpOpsS,go_sem,recoverD,hu,Tryz.ntmps31,Exit.thenS];apply wpS_seq;apply wpS_region;simp[wpOpsS,go_sem,recoverD,hu,Exit.thenS];refine wpS_cond (t:=false) (by simp[Act.eval,Array.replicate]) ?_;simp only[Bool.false_eq_true,if_false];refine wpS_of_wp (wp_skip ?_);cases c₀;simp_all[bodyPostS,results,Tryz.results31]
theorem idle_head(cap:Array Value)(w:World)(h:cap.size=2):CallsD Tryz.prog 44 cap .returning w fun e u' w'=>u'=.returning/\e=.returned (.tuple #[])/\w'=w:=by
 obtain⟨x,y,rfl⟩:=Ao9 cap h;refine callsD_of_wpS Tryz.func44 rfl fun c₀ cs hu=>?_
 apply wpS_seq;apply wpS_region;simp[wpOpsS,go_sem,recoverD,hu,Tryz.ntmps44,Exit.thenS];apply wpS_seq;apply wpS_region;simp[wpOpsS,go_sem,recoverD,hu,Exit.thenS];refine wpS_cond (t:=false) (by simp[Act.eval,Array.replicate]) ?_;simp only[Bool.false_eq_true,if_false];refine wpS_of_wp (wp_skip ?_);cases c₀;simp_all[bodyPostS,results,Tryz.results44]
theorem Awm(w:World):(convert 25 3 (.float .f64 4607182418800017408)).run Tryz.prog w=.ok (.int .i64 1) w:=by
 kernel_rfl
theorem limit_one(w:World):Calls Tryz.prog 34 #[.float .f64 4607182418800017408] w fun e w'=>e=.returned (.int .i64 1)/\w'=w:=by
 have hc:=Awm
 go_enter Tryz.func34,Tryz.ntmps34
 go_wp2
 all_goals
  go_ret
  exact⟨rfl,rfl⟩
end Go.Proofs.YtdpigpopcbjkmaaGreatDoor.Nrm
namespace Go.Proofs.YtdpigpopcbjkmaaGreatDoor.Abs
open Go Go.RowKit Go.Proofs.YtdpigpopcbjkmaaGreatDoor
def Ic(k i j n want:Int)(len:Nat):Bool:=(!(want != 0) || (!(Ie k != 0) || !(Ie k != want))) && (!((len:Int) != Bh k n) && Lq k i j n)
def ofN(k:Int)(i:Nat):Int:=if k=12/\i=2 then 2 else Ie k
theorem Avp(k i j n want:Int)(rows:GV)(W:Nat->List SV->Bool)(h2:rows.length*56<=140737488355328)(h5:∀r∈rows,r.length=5)
  (H:∀p,∀r∈rows,Con 56 [.agg true r,.int .i64 (ofN k p)] (.bool (W p r))) :
  Con 56 [.agg true [.int .i64 k,.int .i64 i,.int .i64 j,.int .i64 n,.dsl 5 rows],.int .i64 want] (.bool (Ic k i j n want rows.length && Ha W 0 rows)):=by
 refine Al mixed Tryz.func56 tr56 ?_;simp only[go_sem,seval];refine Aa (Awh k) ?_;simp only[go_sem,seval];unfold Ic;cases hw:(want != 0)<;>cases hs:(Ie k != 0)<;>cases hd:(Ie k != want)<;>simp only[go_sem,seval,hs,hd]
 all_goals
  refine Aa (Ahr k n) ?_;cases hK:((rows.length:Int) != Bh k n)<;>simp only[go_sem,seval,hK];refine Aa (Auq k i j n rows) ?_;cases hN:Lq k i j n<;>simp only[go_sem,seval,hN];intros;refine Sq (fun x=>⟨(.J::.J::.ref 0 0 0 0::.J::.J::.int .i64 (Ie k)::.J::.J::.J::.J::.J::.J::.J::.J::.J::.J::.J::.J::.J::.J::.J::.J::.J::.J::.J::.J::.J::.J::.J::.J::.J::.J::.J::.J::.J::.J::.J::.J::.dsl 5 rows::.int .i64 rows.length::.int .i64 x::.J::.J::.J::.J::.J::.J::.J::.J::.J::.J::.J::.J::.J::.J::.J::.J::.J::[]),[⟨true,5,[[.int .i64 k,.int .i64 i,.int .i64 j,.int .i64 n,.dsl 5 rows]],0,0,true⟩]⟩) rows.length (fun x=>W x (rows[x]?.getD [])=true) (fun x hx hp=>?_) ?_
  ·simp only[go_sem,seval,Amn,Amm,Amo];refine⟨fun h=>?_,fun h=>?_⟩
   ·have Ab:=of_decide_eq_true h;have Cg:x<rows.length:=by omega
    have e0:(0:Int)<=(x:Int):=by omega
    have hm:=Ig (d:=[]) Cg;have Dw:=h5 _ hm;have ho:=H x _ hm;have eo:ofN k x=bif (k==12) && ((x:Int)==2) then 2 else Ie k:=by
     unfold ofN
     by_cases a:k=12
     ·by_cases b:x=2
      ·subst b;rw[if_pos ⟨a,rfl⟩,a];rfl
      ·rw[if_neg (fun h=>b h.2),Ag (show (x:Int)≠2 by omega),Bool.and_false];rfl
     ·rw[if_neg (fun h=>a h.1),Ag a,Bool.false_and];rfl
    simp only[go_sem,seval,Ab,e0,Dw];cases Lh:(k==12)<;>cases Kv:((x:Int)==2)<;>simp only[go_sem,seval,Kv]
    all_goals
     simp only[Lh,Kv,Bool.and_true,Bool.and_false,Bool.true_and,Bool.false_and,cond_true,cond_false] at eo;rw[eo] at ho;refine Aa ho ?_;cases hW:W x (rows[x]?.getD [])<;>simp only[go_sem,seval]
     ·rw[Agw (d:=[]) (i:=x) Cg (by rw[Nat.zero_add];exact hW)]
     ·refine⟨Cg,?_⟩;rw[w64 (n:=(x:Int)+1) (by unfold fit;omega)];exact Dq 1 (by simp[An]) (by simp only[List.take_succ_cons,List.take_zero]) (by simp[Bb]) (by simp)
   ·have Fu:=of_decide_eq_false h;have Kw:x=rows.length:=by omega
    simp only[go_sem,seval,h];rw[Agx (d:=[]) (f:=W) (fun j hj=>by rw[Nat.zero_add];exact hp j (by omega))]
  ·exact Au (by simp[An])
theorem A7w{l:List Tm}(ih:∀a∈l,∀b,tv a=tv b->a=b):∀{r:List Tm},l.map tv=r.map tv->l=r:=by
 induction l with
 |nil=>intro r h;cases r with
  |nil=>rfl
  |cons b r=>simp at h
 |cons a l ihl=>
  intro r h;cases r with
  |nil=>simp at h
  |cons b r=>
   simp only[q_h,List.cons.injEq] at h;rw[ih a (by simp) b h.1,ihl (fun x hx=>ih x (by simp[hx])) h.2]
theorem Bhf(a:Tm):∀b,tv a=tv b->a=b:=by
 induction a using Tm.ind with
 |h k i j n l ih=>
  intro b h;cases b with
  |mk k' i' j' n' l'=>
   rw[Am,Am] at h;simp only[List.cons.injEq,SV.int.injEq,SV.dsl.injEq,true_and,and_true] at h;obtain⟨rfl,rfl,rfl,rfl,h5⟩:=h;rw[A7w ih h5]
noncomputable def onT {α:Type}(f:Tm->α)(d:α)(r:List SV):α:=open Classical in if h:∃t,tv t=r then f (Classical.choose h) else d
theorem Jg{α:Type}(f:Tm->α)(d:α)(t:Tm):onT f d (tv t)=f t:=by
 have h:∃u,tv u=tv t:=⟨t,rfl⟩
 unfold onT;rw[dif_pos h,Bhf _ _ (Classical.choose_spec h)]
theorem rows5(l:List Tm):∀r∈l.map tv,r.length=5:=fun r hr=>by obtain⟨t,_,rfl⟩:=List.mem_map.1 hr;exact Af t
mutual
def Es:Tm->Int->Bool
 |.mk k i j n l,want=>Ic k i j n want l.length && j0 k 0 l
def j0(k:Int):Nat->List Tm->Bool
 |_,[]=>true
 |p,t::l=>Es t (ofN k p) && j0 k (p+1) l
end
theorem Bec(k:Int):∀(l:List Tm) (p:Nat),j0 k p l=Ha (fun p t=>Es t (ofN k p)) p l:=by
 intro l
 induction l with
 |nil=>intro p;rw[j0];rfl
 |cons t l ih=>intro p;rw[j0,Ha,ih]
theorem Uy(k i j n:Int)(l:List Tm)(want:Int):Es (.mk k i j n l) want=(Ic k i j n want l.length && Ha (fun p t=>Es t (ofN k p)) 0 l):=by rw[Es,Bec]
theorem Avo(t:Tm):TOk t->∀want,Con 56 [.agg true (tv t),.int .i64 want] (.bool (Es t want)):=by
 induction t using Tm.ind with
 |h k i j n l ih=>
  intro hok want;cases hok with
  |mk _ _ _ _ _ f1 f2 f3 f4 hb hl=>
  have h:=Avp k i j n want (l.map tv) (fun p r=>onT (fun t=>Es t (ofN k p)) false r) (by simpa using hb) (rows5 l) (fun p r hr=>by
   obtain⟨t,ht,rfl⟩:=List.mem_map.1 hr;simp only[Jg];exact ih t ht (hl t ht) _)
  rw[Ap2,q_g,Agv (g:=fun p t=>Es t (ofN k p)) (fun p t _=>by rw[Jg]),<-Uy,<-Am] at h;exact h
theorem Vp(t:Tm)(ht:TOk t):Con 30 [.agg true (tv t)] (.bool (Es t 2)):=by
 refine Al mixed Tryz.func30 tr30 ?_;have hc:=Avo t ht 2;cases t with
 |mk k i j n l=>
 rw[Am] at hc |-;simp only[go_sem,seval];refine Aa hc ?_;simp only[go_sem,seval]
theorem Avz(k i j n:Int)(rows:GV)(h:k=1\/k=10\/k=11\/k=12):Con 63 [.agg true [.int .i64 k,.int .i64 i,.int .i64 j,.int .i64 n,.dsl 5 rows]] (.bool (lev i && ((j==0) && (n==0)))):=by
 refine Al mixed Tryz.func63 tr63 ?_;rcases h with rfl|rfl|rfl|rfl<;>simp only[go_sem,seval]<;>refine Aa (Xq i) ?_<;>(cases hL:lev i<;>cases hJ:(j==0)<;>cases hN:(n==0)<;>simp only[go_sem,seval,hJ,hN])
theorem Av0(i j n:Int)(rows:GV):Con 63 [.agg true [.int .i64 2,.int .i64 i,.int .i64 j,.int .i64 n,.dsl 5 rows]] (.bool (decide (0<=i) && (decide (i<=2147483647) && ((j==0) && (n==0))))):=by
 refine Al mixed Tryz.func63 tr63 ?_
 by_cases h1:0<=i<;>by_cases h2:i<=2147483647<;>cases hJ:(j==0)<;>cases hN:(n==0)<;>simp only[go_sem,seval,hJ,hN,h1,h2]
theorem Av2(k i j n:Int)(rows:GV)(h:k=3\/k=4\/k=5\/k=6\/k=7\/k=8\/k=9):Con 63 [.agg true [.int .i64 k,.int .i64 i,.int .i64 j,.int .i64 n,.dsl 5 rows]] (.bool (lev i && (lev j && (n==0)))):=by
 refine Al mixed Tryz.func63 tr63 ?_;rcases h with rfl|rfl|rfl|rfl|rfl|rfl|rfl<;>simp only[go_sem,seval]<;>refine Aa (Xq i) ?_<;>(cases hL:lev i<;>simp only[go_sem,seval];refine Aa (Xq j) ?_;cases hJ:lev j<;>cases hN:(n==0)<;>simp only[go_sem,seval,hN])
theorem Av1(i j n:Int)(rows:GV):Con 63 [.agg true [.int .i64 23,.int .i64 i,.int .i64 j,.int .i64 n,.dsl 5 rows]] (.bool (lev i && lev j)):=by
 refine Al mixed Tryz.func63 tr63 ?_;simp only[go_sem,seval];refine Aa (Xq i) ?_;cases hL:lev i
 ·simp only[go_sem,seval]
 ·simp only[go_sem,seval];refine Aa (Xq j) ?_;simp only[go_sem,seval]
theorem Avy(k i j n:Int)(rows:GV)(h:k<1\/(12<k/\k≠23)):Con 63 [.agg true [.int .i64 k,.int .i64 i,.int .i64 j,.int .i64 n,.dsl 5 rows]] (.bool ((i==0) && ((j==0) && (n==0)))):=by
 refine Al mixed Tryz.func63 tr63 ?_;simp only[go_sem,seval,Ag (show k≠1 by omega),Ag (show k≠2 by omega),Ag (show k≠3 by omega),Ag (show k≠4 by omega),Ag (show k≠5 by omega),Ag (show k≠6 by omega),Ag (show k≠7 by omega),Ag (show k≠8 by omega),Ag (show k≠9 by omega),Ag (show k≠10 by omega),Ag (show k≠11 by omega),Ag (show k≠12 by omega),Ag (show k≠23 by omega)];cases hI:(i==0)<;>cases hJ:(j==0)<;>cases hN:(n==0)<;>simp only[go_sem,seval,hJ,hN]
theorem Avx(k i j n:Int)(rows:GV):Con 63 [.agg true [.int .i64 k,.int .i64 i,.int .i64 j,.int .i64 n,.dsl 5 rows]] (.bool (Lq k i j n)):=by
 unfold Lq
 by_cases h1:k=1\/k=10\/k=11\/k=12
 ·rw[if_pos h1];exact Avz k i j n rows h1
 ·rw[if_neg h1]
  by_cases h2:k=2
  ·subst h2;rw[if_pos rfl];exact Av0 i j n rows
  ·rw[if_neg h2]
   by_cases h3:3<=k/\k<=9
   ·rw[if_pos h3];exact Av2 k i j n rows (by omega)
   ·rw[if_neg h3]
    by_cases h4:k=23
    ·subst h4;rw[if_pos rfl];exact Av1 i j n rows
    ·rw[if_neg h4];exact Avy k i j n rows (by omega)
def Uo(k i j n:Int)(len:Nat):Bool:=((len:Int)==Bh k n) && Lq k i j n
theorem Ah0(k i j n:Int)(rows:GV):Con 39 [.agg true [.int .i64 k,.int .i64 i,.int .i64 j,.int .i64 n,.dsl 5 rows]] (.bool (Uo k i j n rows.length)):=by
 refine Al mixed Tryz.func39 tr39 ?_;simp only[go_sem,seval];refine Aa (Kp k n) ?_;unfold Uo;cases hK:((rows.length:Int)==Bh k n)
 ·simp only[go_sem,seval,hK]
 ·simp only[go_sem,seval,hK];refine Aa (Avx k i j n rows) ?_;simp only[go_sem,seval]
open Go Go.RowKit Go.Proofs.YtdpigpopcbjkmaaGreatDoor
def Abr(k i j n:Int)(len:Nat):Bool:=!((k != 1) && ((k != 2) && (decide (k<13) || decide (k > 23)))) && Uo k i j n len
def An5(k i j n:Int)(len:Nat):Bool:=!(decide (k<1) || decide (k > 12)) && Uo k i j n len
theorem Av3(k i j n:Int)(rows:GV)(W:List SV->Bool)(h2:rows.length*56<=140737488355328)(h5:∀r∈rows,r.length=5)
  (H:∀r∈rows,Con 18 [.agg true r] (.bool (W r))) :
  Con 18 [.agg true [.int .i64 k,.int .i64 i,.int .i64 j,.int .i64 n,.dsl 5 rows]] (.bool (Abr k i j n rows.length && rows.all W)):=by
 refine Al mixed Tryz.func18 tr18 ?_;simp only[go_sem,seval];unfold Abr;have Rv:∀b:Bool,b=((k != 1) && ((k != 2) && (decide (k<13) || decide (k > 23))))->True:=fun _ _=>trivial
 cases h1:(k != 1)<;>cases It:(k != 2)<;>by_cases h3:k<13<;>by_cases h4:23<k<;>simp only[go_sem,seval,It,h3,h4]
 all_goals
  refine Aa (Ah0 k i j n rows) ?_;cases hN:Uo k i j n rows.length<;>simp only[go_sem,seval];refine Sq (fun x=>⟨(.J::.ref 0 0 0 0::.J::.int .i64 x::.J::.J::.J::.J::.J::.J::.J::.J::.J::.J::.J::.J::.J::.J::.J::.J::.J::.J::.J::.J::.J::.J::.J::.J::.J::.J::.J::.J::.J::.J::.J::.J::.J::.J::.J::.J::.J::[]),[⟨true,5,[[.int .i64 k,.int .i64 i,.int .i64 j,.int .i64 n,.dsl 5 rows]],0,0,true⟩]⟩) rows.length (fun x=>W (rows[x]?.getD [])=true) (fun x hx hp=>?_) ?_
  ·simp only[go_sem,seval];intro _;refine⟨fun h=>?_,fun h=>?_⟩
   ·have Ab:=of_decide_eq_true h;have Cg:x<rows.length:=by omega
    have e0:(0:Int)<=(x:Int):=by omega
    have hm:=Ig (d:=[]) Cg;have Dw:=h5 _ hm;simp only[go_sem,seval,Ab,e0,Dw];refine Aa (H _ hm) ?_;cases hW:W (rows[x]?.getD [])<;>simp only[go_sem,seval]
    ·rw[Ap5 (d:=[]) (i:=x) Cg hW]
    ·refine⟨Cg,?_⟩;rw[w64 (n:=(x:Int)+1) (by unfold fit;omega)];exact Au (by simp[An])
   ·have Fu:=of_decide_eq_false h;have Kw:x=rows.length:=by omega
    simp only[go_sem,seval,h];rw[Ap6 (d:=[]) (f:=W) (fun j hj=>hp j (by omega))]
  ·exact Au (by simp[An])
theorem Avv(k i j n:Int)(rows:GV)(W:Nat->List SV->Bool)(h2:rows.length*56<=140737488355328)(h5:∀r∈rows,r.length=5)
  (H1:∀p:Nat,∀r∈rows,((k==12) && ((p:Int)==2))=true->Con 18 [.agg true r] (.bool (W p r)))
  (H2:∀p:Nat,∀r∈rows,((k==12) && ((p:Int)==2))=false->Con 64 [.agg true r] (.bool (W p r))) :
  Con 64 [.agg true [.int .i64 k,.int .i64 i,.int .i64 j,.int .i64 n,.dsl 5 rows]] (.bool (An5 k i j n rows.length && Ha W 0 rows)):=by
 refine Al mixed Tryz.func64 tr64 ?_;simp only[go_sem,seval];unfold An5
 by_cases h3:k<1<;>by_cases h4:12<k<;>simp only[go_sem,seval,h3,h4]
 all_goals
  refine Aa (Ah0 k i j n rows) ?_;cases hN:Uo k i j n rows.length<;>simp only[go_sem,seval];refine Sq (fun x=>⟨(.J::.ref 0 0 0 0::.J::.int .i64 x::.J::.J::.J::.J::.J::.J::.J::.J::.J::.J::.J::.J::.J::.J::.J::.J::.J::.J::.J::.J::.J::.J::.J::.J::.J::.J::.J::.J::.J::.J::.J::.J::.J::.J::.J::.J::.J::.J::.J::.J::.J::[]),[⟨true,5,[[.int .i64 k,.int .i64 i,.int .i64 j,.int .i64 n,.dsl 5 rows]],0,0,true⟩]⟩) rows.length (fun x=>W x (rows[x]?.getD [])=true) (fun x hx hp=>?_) ?_
  ·simp only[go_sem,seval];intro _;refine⟨fun h=>?_,fun h=>?_⟩
   ·have Ab:=of_decide_eq_true h;have Cg:x<rows.length:=by omega
    have e0:(0:Int)<=(x:Int):=by omega
    have hm:=Ig (d:=[]) Cg;have Dw:=h5 _ hm;have g1:=H1 x _ hm;have g2:=H2 x _ hm;cases Lh:(k==12)<;>cases Kv:((x:Int)==2)<;>simp only[go_sem,seval,Lh,Kv,Ab,e0,Dw]
    all_goals
     simp only[Lh,Kv,Bool.and_true,Bool.and_false,Bool.true_and,Bool.false_and,true_implies,reduceCtorEq,false_implies] at g1 g2
     first
      |refine Aa g1 ?_
      |refine Aa g2 ?_
     cases hW:W x (rows[x]?.getD [])<;>simp only[go_sem,seval]
     ·rw[Agw (d:=[]) (i:=x) Cg (by rw[Nat.zero_add];exact hW)]
     ·refine⟨Cg,?_⟩;rw[w64 (n:=(x:Int)+1) (by unfold fit;omega)];exact Au (by simp[An])
   ·have Fu:=of_decide_eq_false h;have Kw:x=rows.length:=by omega
    simp only[go_sem,seval,h];rw[Agx (d:=[]) (f:=W) (fun j hj=>by rw[Nat.zero_add];exact hp j (by omega))]
  ·exact Au (by simp[An])
abbrev Cb(t:Tm):Bool:=Es t 2
theorem A6s(k n:Int)(h:k<=0\/23<k):Bh k n=-1:=by
 unfold Bh tab;rw[if_neg (by omega),if_neg (by simp only[List.length_cons,List.length_nil];omega)]
theorem A7b(k n:Int)(len:Nat)(h:k<=0\/23<k):((len:Int)==Bh k n)=false:=by
 rw[A6s k n h];exact Ag (by omega)
theorem Beo(k i j n:Int)(len:Nat):Abr k i j n len=Ic k i j n 2 len:=by
 unfold Abr Ic Uo;rw[show (!((len:Int) != Bh k n))=((len:Int)==Bh k n) by simp[bne]]
 by_cases h:k<=0\/23<k
 ·rw[A7b k n len h];simp
 ·congr 1;have hs:Ie k=if k=1\/k=2 then 0 else if k<=12 then 1 else 2:=rfl
  by_cases h1:k=1
  ·subst h1;rfl
  ·by_cases h2:k=2
   ·subst h2;rfl
   ·rw[hs,if_neg (by omega)];have e1:(k != 1)=true:=by simp[h1]
    have e2:(k != 2)=true:=by simp[h2]
    rw[e1,e2];have e4:decide (k > 23)=false:=by simp;omega
    rw[e4]
    by_cases h3:k<=12
    ·rw[if_pos h3];have e3:decide (k<13)=true:=by simp;omega
     rw[e3];rfl
    ·rw[if_neg h3];have e3:decide (k<13)=false:=by simp;omega
     rw[e3];rfl
theorem Ap1{α:Type}{f:α->Bool}:∀{l:List α} {p:Nat},Ha (fun _ x=>f x) p l=l.all f:=by
 intro l
 induction l with
 |nil=>intro p;rfl
 |cons x l ih=>intro p;simp only[Ha,List.all_cons,ih]
theorem Ano(k i j n:Int)(l:List Tm):Es (.mk k i j n l) 2=(Ic k i j n 2 l.length && l.all Cb):=by
 rw[Uy];cases h:Ic k i j n 2 l.length
 ·rfl
 ·rw[Bool.true_and,Bool.true_and];unfold Ic at h;simp only[Bool.and_eq_true,Bool.or_eq_true,Bool.not_eq_true',bne_eq_false_iff_eq] at h;obtain⟨h1,h2,_⟩:=h;have hs:Ie k=if k=1\/k=2 then 0 else if k<=12 then 1 else 2:=rfl
  by_cases Lh:k=1\/k=2
  ·have:l=[]:=by
    rcases Lh with rfl|rfl
    ·exact List.length_eq_zero_iff.1 (by simpa [Bh,tab] using h2)
    ·exact List.length_eq_zero_iff.1 (by simpa [Bh,tab] using h2)
   subst this;rfl
  ·rw[if_neg Lh] at hs;have hk:Ie k=2:=by
    rcases h1 with h1|h1|h1
    ·omega
    ·rw[hs] at h1;split at h1<;>omega
    ·exact h1
   have h13:k≠12:=by
    intro e;subst e;simp[Ie] at hk
   rw[Agv (g:=fun _ t=>Cb t) (fun p t _=>by unfold ofN;rw[if_neg (by omega),hk]),Ap1]
theorem Vr(t:Tm):TOk t->Con 18 [.agg true (tv t)] (.bool (Cb t)):=by
 induction t using Tm.ind with
 |h k i j n l ih=>
  intro hok;cases hok with
  |mk _ _ _ _ _ f1 f2 f3 f4 hb hl=>
  have h:=Av3 k i j n (l.map tv) (onT Cb false) (by simpa using hb) (rows5 l) (fun r hr=>by
   obtain⟨t,ht,rfl⟩:=List.mem_map.1 hr;rw[Jg];exact ih t ht (hl t ht))
  rw[q_g,Beo,List.all_map,<-Am] at h;have e:l.all (onT Cb false ∘ tv)=l.all Cb:=by
   congr 1;funext t;simp[Jg]
  rw[e,<-Ano] at h;exact h
theorem Uz{α:Type}{l:List α}{i:Nat}{d:α}(h:i<l.length):l.take i++[l[i]?.getD d]=l.take (i+1):=by
 rw[List.take_add_one,q_f h];rfl
def zt:Tm:=.mk 0 0 0 0 []
theorem Alr(n:Int):Le (.tup [.agg true [.int .i64 0,.int .i64 0,.int .i64 0,.int .i64 0,.nils],.int .i64 n]) (.tup [.agg true (tv zt),.int .i64 n]):=by
 refine .tup _ _ (.cons _ _ _ _ ?_ (.cons _ _ _ _ (.cell _ _ (.refl _)) .nil));rw[zt,Am];exact .agg _ _ (.cons _ _ _ _ (.refl _) (.cons _ _ _ _ (.refl _) (.cons _ _ _ _ (.refl _) (.cons _ _ _ _ (.refl _) (.cons _ _ _ _ (.nils 5) .nil)))))
theorem Aax(cap:Array Value)(w:World):(invoke (.fn (.func 31) cap) #[]).run Tryz.prog w=.ok (.enter 31 cap) w:=by
 simp[go_sem]
theorem Alf(cap:Array Value)(w:World):(invoke (.fn (.func 44) cap) #[]).run Tryz.prog w=.ok (.enter 44 cap) w:=by
 simp[go_sem]
theorem Wt(t:Tm)(b:Nat):∀x∈[SV.agg true (tv t),.float .f64 b],NoG x:=by
 intro x hx;simp only[List.mem_cons,List.not_mem_nil,or_false] at hx;rcases hx with rfl|rfl
 ·exact Zw t true
 ·exact .float _ _
theorem A8u(k i j n e:Int):NoG (.tup [.agg true [.int .i64 k,.int .i64 i,.int .i64 j,.int .i64 n,.nils],.int .i64 e]):=by
 refine .tup _ (fun x hx=>?_);simp only[List.mem_cons,List.not_mem_nil,or_false] at hx;rcases hx with rfl|rfl
 ·refine .agg _ _ (fun y hy=>?_);simp only[List.mem_cons,List.not_mem_nil,or_false] at hy;rcases hy with rfl|rfl|rfl|rfl|rfl<;>first|exact .int _ _|exact .nils
 ·exact .int _ _
theorem Abb(t:Tm)(e:Int):NoG (.tup [.agg true (tv t),.int .i64 e]):=by
 refine .tup _ (fun x hx=>?_);simp only[List.mem_cons,List.not_mem_nil,or_false] at hx;rcases hx with rfl|rfl
 ·exact Zw t true
 ·exact .int _ _
theorem A9i(t:Tm)(ht:TOk t)(hp:Cb t=false)(b:Nat):Con 14 [.agg true (tv t),.float .f64 b] (.tup [.agg true (tv zt),.int .i64 1]):=by
 refine (Ac7 (r:=.tup [.agg true [.int .i64 0,.int .i64 0,.int .i64 0,.int .i64 0,.nils],.int .i64 1]) mixed Tryz.func14 tr14 Aax Nrm.idle_norm (Wt t b) (A8u _ _ _ _ _) ?_).weaken (Alr 1);have hc:=Vp t ht;rw[show Es t 2=false from hp] at hc;have h5:=Af t;generalize tv t=r at *
 simp only[go_sem,seval,h5];refine Aa hc ?_;simp only[go_sem,seval]
theorem Aht:Con 34 [.float .f64 4607182418800017408] (.int .i64 1):=by
 intro m w vs h1 h2 h3;obtain⟨v,rfl⟩:∃v,vs=[v]:=by
  match vs,h2 with
  |[v],_=>exact⟨v,rfl⟩
 have hv:=h3 0 v _ rfl rfl;cases hv;refine Calls.mono (Nrm.limit_one w) (fun e w' he=>?_);obtain⟨rfl,rfl⟩:=he;exact⟨_,m,rfl,.int _ _,⟨.refl m,rfl⟩,fun _ _ _=>rfl,h1,rfl,rfl,rfl,Nat.le_refl _,fun _ _=>rfl⟩
end Go.Proofs.YtdpigpopcbjkmaaGreatDoor.Abs
