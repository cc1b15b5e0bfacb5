import Derived.Test.YtgfehkhcmnfpaaaGreatDoorIOt
import Derived.Test.YtgfehkhcmnfpaaaGreatDoorIAfN
set_option linter.all false
set_option maxRecDepth 20000
set_option maxHeartbeats 4000000
namespace Go.Proofs.YtgfehkhcmnfpaaaGreatDoor.Abs
open Go Go.RowKit
def Tok.back(d:Nat)(t:Tok):Tok:={ t with p:=t.p-d }
def Ale(q d:Nat)(s:By):(Ck (q-d) s).2=(Ck q s).2/\(Ck (q-d) s).1.w=(Ck q s).1.w/\(Ck (q-d) s).1.k=(Ck q s).1.k:=by
 cases s with
 |nil=>exact⟨rfl,rfl,rfl⟩
 |cons c r=>
  simp only[Ck]
  repeat' split
  all_goals exact⟨rfl,rfl,rfl⟩
def Azk{l:By}{q d:Nat}(hq:q<l.length)(ho:(Ck q (l.drop q)).2=true):Ck (q-d) (l.drop q)=((Ck q (l.drop q)).1.back d,true):=by
 obtain⟨h1,h2,h3⟩:=Ale q d (l.drop q);have h4:=(Pe hq ho).2.2.2.1;have h5:(Ck (q-d) (l.drop q)).1.p=q-d:=by
  have hw:=(Pe hq ho).1;rw[Kf hq] at ho |-;simp only[Ck] at ho |-
  repeat' split
  all_goals first|rfl|skip
  rename_i a1 a2 a3 a4;rw[if_neg a1,if_neg a2,if_neg a3,if_neg a4] at ho;cases ho
 generalize Ck (q-d) (l.drop q)=a at *
 obtain⟨⟨k,w,p⟩,b⟩:=a;unfold Tok.back;rw[h4];simp only at h1 h2 h3 h5;rw[h1,h2,h3,h5,ho]
def LxG.back{l:By}{q:Nat}{ts:List Tok}{e:Option Nat}(h:LxG l q ts e):∀d,d<=q->LxG (l.drop d) (q-d) (ts.map (Tok.back d)) (e.map (· - d)):=by
 induction h with
 |nil=>
  intro d hd;have:l.length-d=(l.drop d).length:=by simp
  rw[this];exact .nil
 |@bad q hq h=>
  intro d hd;refine .bad (by rw[q_kg];omega) ?_;rw[List.drop_drop,show d+(q-d)=q by omega];exact (Ale q d _).1.trans h
 |@tok q ts e hq h r ih=>
  intro d hd;have hb:=Azk (d:=d) hq h;have w9:(l.drop d).drop (q-d)=l.drop q:=by rw[List.drop_drop,show d+(q-d)=q by omega]
  have e1:(Ck (q-d) ((l.drop d).drop (q-d))).1=(Ck q (l.drop q)).1.back d:=by rw[w9,hb]
  rw[q_h,<-e1];refine .tok (by rw[q_kg];omega) (by rw[w9,hb]) ?_;have hw:(Ck (q-d) ((l.drop d).drop (q-d))).1.w.length=(Ck q (l.drop q)).1.w.length:=by rw[e1];rfl
  rw[hw,List.drop_drop];have:=ih d (by omega);rw[show d+(q-d+(Ck q (l.drop q)).1.w.length)=q+(Ck q (l.drop q)).1.w.length by omega];rw[show q+(Ck q (l.drop q)).1.w.length+skF false (l.drop (q+(Ck q (l.drop q)).1.w.length))-d=q-d+(Ck q (l.drop q)).1.w.length+skF false (l.drop (q+(Ck q (l.drop q)).1.w.length)) by omega] at this;exact this
def Al4:∀(s:By) (b:Bool) (n:Nat),skF b (s.take n)=min n (skF b s):=by
 intro s
 induction s with
 |nil=>intro b n;cases b<;>simp[skF]
 |cons c r ih=>
  intro b n;cases n with
  |zero=>cases b<;>simp[skF]
  |succ n=>
   rw[List.take_succ_cons];cases b<;>simp only[skF]<;>(repeat' split)<;>(try rw[ih])<;>omega
def Amp{P:UInt8->Bool}:∀(r:By) (n:Nat),(r.takeWhile P).length<=n->(r.take n).takeWhile P=r.takeWhile P/\(r.take n).dropWhile P=(r.dropWhile P).take (n-(r.takeWhile P).length):=by
 intro r
 induction r with
 |nil=>intro n _;simp
 |cons c r ih=>
  intro n h;cases hc:P c with
  |false=>
   cases n with
   |zero=>simp[List.takeWhile_cons,List.dropWhile_cons,hc]
   |succ n=>simp[List.takeWhile_cons,List.dropWhile_cons,hc]
  |true=>
   simp only[List.takeWhile_cons,hc,if_true,q_jk] at h;obtain⟨m,rfl⟩:∃m,n=m+1:=⟨n-1,by omega⟩
   obtain⟨h1,h2⟩:=ih m (by omega);simp only[List.take_succ_cons,List.takeWhile_cons,List.dropWhile_cons,hc,if_true,q_jk,h1,h2];exact⟨trivial,by congr 1;omega⟩
def Azl{q n:Nat}{s:By}(ho:(Ck q s).2=true)(hn:(Ck q s).1.w.length<=n):Ck q (s.take n)=Ck q s:=by
 cases s with
 |nil=>simp
 |cons c r=>
  have h1:1<=(Ck q (c::r)).1.w.length:=by
   simp only[Ck] at ho |-
   repeat' split
   all_goals first|(simp;done)|skip
   rename_i a1 a2 a3 a4;rw[if_neg a1,if_neg a2,if_neg a3,if_neg a4] at ho;cases ho
  obtain⟨m,rfl⟩:∃m,n=m+1:=⟨n-1,by omega⟩
  rw[List.take_succ_cons];revert ho hn;simp only[Ck];split
  ·intro _ _;rfl
  split
  ·intro _ _;rfl
  split
  ·intro _ hn;simp only[q_jk] at hn;rw[(Amp r m (by omega)).1]
  split
  ·intro ho hn;simp only[q_jk] at hn;obtain⟨e1,e2⟩:=Amp (P:=Gs) r m (by omega);rw[e1,e2];cases hd:r.dropWhile Gs with
   |nil=>simp
   |cons d r2=>
    rw[hd] at ho;cases hm:m-(r.takeWhile Gs).length with
    |zero=>
     simp only[List.take_zero,q_lc];simp only[q_jl] at ho;rw[ho.1,ho.2];rfl
    |succ j=>simp
  ·intro ho;cases ho
def LxG.pos{l:By}{q:Nat}{t:Tok}{ts:List Tok}{e:Option Nat}(h:LxG l q (t::ts) e):t.p=q:=by
 cases h with
 |tok hq h r=>exact (Pe hq h).2.2.2.1
def LxG.cut{l:By}{q:Nat}{ts:List Tok}{e:Option Nat}(h:LxG l q ts e):∀(m E:Nat),m<ts.length->E<=l.length->(∀k,k<=m->(ts.getD k ⟨0,[],0⟩).p+(ts.getD k ⟨0,[],0⟩).w.length<=E) ->
  E<=(ts.getD m ⟨0,[],0⟩).p+(ts.getD m ⟨0,[],0⟩).w.length+skF false (l.drop ((ts.getD m ⟨0,[],0⟩).p+(ts.getD m ⟨0,[],0⟩).w.length))->LxG (l.take E) q (ts.take (m+1)) none:=by
 induction h with
 |nil=>intro m E hm;simp at hm
 |bad=>intro m E hm;simp at hm
 |@tok q ts e hq h r ih=>
  intro m E hm hE hb hs;obtain⟨w1,w2,w3,w4,_⟩:=Pe hq h;have h0:=hb 0 (Nat.zero_le _);simp only[List.getD_cons_zero,w4] at h0;have w9:(l.take E).drop q=(l.drop q).take (E-q):=List.drop_take ..;have ho:=Azl (n:=E-q) h (by omega);have e1:Ck q ((l.take E).drop q)=Ck q (l.drop q):=by rw[w9,ho]
  rw[List.take_succ_cons];have Bh:(l.take E).length=E:=by rw[q_kf];omega
  have key:LxG (l.take E) (q+(Ck q (l.drop q)).1.w.length+skF false ((l.take E).drop (q+(Ck q (l.drop q)).1.w.length))) (ts.take m) none:=by
   rw[List.drop_take,Al4];cases m with
   |zero=>
    simp only[List.getD_cons_zero,w4] at hs;rw[List.take_zero,show q+(Ck q (l.drop q)).1.w.length+min (E-(q+(Ck q (l.drop q)).1.w.length)) (skF false (l.drop (q+(Ck q (l.drop q)).1.w.length)))=(l.take E).length by omega];exact .nil
   |succ m=>
    have hi:=ih m E (by simpa using hm) hE (fun k hk=>by simpa using hb (k+1) (by omega)) (by simpa using hs);have hb1:=hb 1 (by omega);cases ts with
    |nil=>simp at hm
    |cons t2 ts2=>
     have hp:=r.pos;simp only[List.getD_cons_succ,List.getD_cons_zero,hp] at hb1;rw[Nat.min_eq_right (by omega)];exact hi
  have:=LxG.tok (l:=l.take E) (q:=q) (ts:=ts.take m) (e:=none) (by omega) (by rw[e1];exact h) (by rw[e1];exact key);rw[e1] at this;exact this
def LxG.one{l:By}{q:Nat}{ts ts':List Tok}{e e':Option Nat}(h:LxG l q ts e)(h':LxG l q ts' e'):ts=ts'/\e=e':=by
 induction h generalizing ts' e' with
 |nil=>
  generalize hl:l.length=n at h';cases h' with
  |nil=>exact⟨rfl,rfl⟩
  |bad hq=>omega
  |tok hq=>omega
 |@bad q hq h=>
  cases h' with
  |nil=>omega
  |bad=>exact⟨rfl,rfl⟩
  |tok _ h2=>rw[h] at h2;cases h2
 |@tok q ts e hq h r ih=>
  generalize hl:q=q2 at h';cases h' with
  |nil=>omega
  |bad _ h2=>subst hl;rw[h] at h2;cases h2
  |tok _ h2 r2=>
   subst hl;obtain⟨rfl,rfl⟩:=ih r2;exact⟨rfl,rfl⟩
def LxG.noblank{l:By}{q:Nat}{t:Tok}{ts:List Tok}{e:Option Nat}(h:LxG l q (t::ts) e):skF false (l.drop q)=0:=by
 cases h with
 |tok hq h r=>
  rw[sk_f hq];rw[Kf hq,Ck] at h;have hcc:(l.getD q 0).toNat=chN l q:=rfl;rw[hcc] at h
  by_cases c1:chN l q=32\/chN l q=9\/chN l q=10\/chN l q=59
  ·exfalso;have a1:¬chN l q=40:=by omega
   have a2:¬chN l q=41:=by omega
   have a3:Ge (chN l q)=false:=by unfold Ge;simp;omega
   have a4:Fv (chN l q)=false:=by unfold Fv;simp;omega
   rw[if_neg a1,if_neg a2,a3,a4] at h;cases h
  ·rw[if_neg (by omega),if_neg (by omega)]
def LxG.all{l:By}{t:Tok}{ts:List Tok}{e:Option Nat}(h:LxG l 0 (t::ts) e):Bi l=(t::ts,e):=by
 have h1:=Jz l;have hz:=h.noblank;rw[List.drop_zero] at hz;rw[hz] at h1;obtain⟨e1,e2⟩:=h.one h1;exact Prod.ext e1.symm e2.symm
def tk0:Tok:=⟨0,[],0⟩
def LxG.stop{l:By}{q:Nat}{ts:List Tok}{e:Option Nat}(h:LxG l q ts e)(ht:ts=[]):q=e.getD l.length:=by
 cases h with
 |nil=>rfl
 |bad=>rfl
 |tok=>cases ht
def LxG.wpos{l:By}{q:Nat}{t:Tok}{ts:List Tok}{e:Option Nat}(h:LxG l q (t::ts) e):1<=t.w.length:=by
 cases h with
 |tok hq h r=>exact (Pe hq h).1
def LxG.dropk{l:By}{q:Nat}{ts:List Tok}{e:Option Nat}(h:LxG l q ts e):∀k,k<ts.length->LxG l (ts.getD k tk0).p (ts.drop k) e:=by
 induction h with
 |nil=>intro k hk;simp at hk
 |bad=>intro k hk;simp at hk
 |@tok q ts e hq h r ih=>
  intro k hk;cases k with
  |zero=>
   have h2:=LxG.tok hq h r;have:=h2.pos;simp only[List.getD_cons_zero,List.drop_zero];rw[this];exact h2
  |succ k=>
   have:=ih k (by simpa using hk);simpa using this
def LxG.ends{l:By}{q:Nat}{ts:List Tok}{e:Option Nat}(h:LxG l q ts e):q<=e.getD l.length/\∀k,k<ts.length->q<=(ts.getD k tk0).p/\(ts.getD k tk0).p+(ts.getD k tk0).w.length<=e.getD l.length:=by
 induction h with
 |nil=>exact⟨q_ja _,fun k hk=>by simp at hk⟩
 |bad hq h=>exact⟨q_ja _,fun k hk=>by simp at hk⟩
 |@tok q ts e hq h r ih=>
  obtain⟨w1,w2,w3,w4,_⟩:=Pe hq h;refine⟨by omega,fun k hk=>?_⟩;cases k with
  |zero=>simp only[List.getD_cons_zero,w4];omega
  |succ k=>
   have:=ih.2 k (by simpa using hk);simp only[List.getD_cons_succ];omega
def LxG.last{l:By}{q:Nat}{ts:List Tok}{e:Option Nat}(h:LxG l q ts e):0<ts.length->(ts.getD (ts.length-1) tk0).p+(ts.getD (ts.length-1) tk0).w.length+skF false (l.drop ((ts.getD (ts.length-1) tk0).p+(ts.getD (ts.length-1) tk0).w.length))=e.getD l.length:=by
 induction h with
 |nil=>intro h;simp at h
 |bad=>intro h;simp at h
 |@tok q ts e hq h r ih=>
  intro _;obtain⟨w1,w2,w3,w4,_⟩:=Pe hq h;cases ts with
  |nil=>
   simp only[q_jk,List.length_nil,q_jg,Nat.sub_self,List.getD_cons_zero,w4];exact r.stop rfl
  |cons t ts=>
   have:=ih (by simp);simpa using this
def LxG.order{l:By}{q:Nat}{ts:List Tok}{e:Option Nat}(h:LxG l q ts e){k k':Nat}(h1:k<=k')(h2:k'<ts.length):(ts.getD k tk0).p<=(ts.getD k' tk0).p:=by
 have h3:=(h.dropk k (by omega)).ends.2 (k'-k) (by rw[q_kg];omega);have e:(ts.drop k).getD (k'-k) tk0=ts.getD k' tk0:=by
  simp only[q_j,q_kj];rw[show k+(k'-k)=k' by omega]
 rw[e] at h3;exact h3.1
def Akg{l:By}{ts:List Tok}{p:Nat}(h:Bi l=(ts,some p)):Bi (l.take p)=(ts,none):=by
 have h1:=Jz l;rw[h] at h1;simp only at h1;have hp:=h1.le.2.2 p rfl;have Bh:(l.take p).length=p:=by rw[q_kf];omega
 have h2:=Jz (l.take p);rw[Al4] at h2;cases ts with
 |nil=>
  have hz:=h1.stop rfl;simp only[q_jz] at hz;rw[hz,Nat.min_self] at h2;have h3:LxG (l.take p) p [] none:=by
   have:=LxG.nil (l:=l.take p)
   rwa [Bh] at this
  obtain⟨e1,e2⟩:=h3.one h2;exact Prod.ext e1.symm e2.symm
 |cons t ts=>
  have hend:=h1.ends.2;have Ee:=h1.pos;have h0:=hend 0 (by simp);simp only[List.getD_cons_zero,q_jz] at h0;have hw:=h1.wpos;rw[Nat.min_eq_right (show skF false l<=p by omega)] at h2;have h3:=h1.cut ts.length p (by simp) (by omega) (fun k hk=>by have:=hend k (by simp;omega);simp only[q_jz] at this;exact this.2) (by
   have:=h1.last (by simp);simp only[q_jk,Nat.add_sub_cancel,q_jz] at this;unfold tk0 at this;exact Nat.le_of_eq this.symm)
  rw[q_js (show (t::ts).length<=ts.length+1 by simp)] at h3;obtain⟨e1,e2⟩:=h3.one h2;exact Prod.ext e1.symm e2.symm
def qc_L(tx:By):(qcR tx).L=(Bi tx).1/\(qcR tx).tx=tx/\(qcR tx).e=((Bi tx).2).getD tx.length:=by
 unfold qcR Em;cases h:Bi tx with
 |mk ts e=>
  cases e with
  |none=>simp
  |some p=>simp[Akg h]
def Afj:∀(l:List Tok) (i d q:Nat),Mt l i d=some q->i<q/\q<=i+l.length:=by
 intro l
 induction l with
 |nil=>intro i d q h;cases h
 |cons t r ih=>
  intro i d q h;rw[Mt] at h
  by_cases hc:(if t.k=1 then d+1 else if t.k=2 then d-1 else d)=0
  ·rw[if_pos hc] at h;cases h;simp
  ·rw[if_neg hc] at h;have:=ih _ _ _ h;rw[q_jk];omega
def Akj{tx:By}{k:Nat}(hk:k<(Bi tx).1.length):Bi (tx.drop ((Bi tx).1.getD k tk0).p)=(((Bi tx).1.drop k).map (Tok.back ((Bi tx).1.getD k tk0).p),((Bi tx).2).map (· - ((Bi tx).1.getD k tk0).p)):=by
 have h:=(Jz tx).dropk k hk;have h2:=h.back _ (q_ja _);rw[Nat.sub_self] at h2;cases hd:(Bi tx).1.drop k with
 |nil=>have:=congrArg List.length hd;rw[q_kg,List.length_nil] at this;omega
 |cons t ts=>
  rw[hd] at h2;rw[q_h] at h2 |-;exact h2.all
def Aki{tx:By}{k q:Nat}(hk:k<q)(hq:q<=(Bi tx).1.length) :
  Bi ((tx.drop ((Bi tx).1.getD k tk0).p).take (((Bi tx).1.getD (q-1) tk0).p+((Bi tx).1.getD (q-1) tk0).w.length-((Bi tx).1.getD k tk0).p))=((((Bi tx).1.drop k).take (q-k)).map (Tok.back ((Bi tx).1.getD k tk0).p),none):=by
 have hx:=Jz tx;generalize Bi tx=R at *
 obtain⟨ts,e⟩:=R;simp only at *
 have h:=hx.dropk k (by omega);have h2:=h.back _ (q_ja _);rw[Nat.sub_self] at h2;have hP:=hx.order (k:=k) (k':=q-1) (by omega) (by omega);have hE:=hx.ends.2;generalize hpp:(ts.getD k tk0).p=P at *
 have hgd:∀y,y<(ts.drop k).length->((ts.drop k).map (Tok.back P)).getD y tk0=(ts.getD (k+y) tk0).back P:=fun y hy=>by
  have hy2:k+y<ts.length:=by rw[q_kg] at hy;omega
  simp only[q_j,q_ji,q_kj,q_f hy2,q_jh,q_jz]
 have hl:e.getD tx.length<=tx.length:=by
  cases e with
  |none=>exact q_ja _
  |some p=>have:=hx.le.2.2 p rfl;simp only[q_jz];omega
 have h3:=h2.cut (q-k-1) ((ts.getD (q-1) tk0).p+(ts.getD (q-1) tk0).w.length-P) (by simp;omega) (by
   have:=hE (q-1) (by omega);rw[q_kg];omega) (fun y hy=>by
   have e1:=hgd y (by rw[q_kg];omega);unfold tk0 at e1;rw[e1];show (ts.getD (k+y) _).p-P+(ts.getD (k+y) _).w.length<=_;have a1:=hx.order (k:=k) (k':=k+y) (by omega) (by omega);rw[hpp] at a1;have a2:(ts.getD (k+y) tk0).p+(ts.getD (k+y) tk0).w.length<=(ts.getD (q-1) tk0).p+(ts.getD (q-1) tk0).w.length:=by
    rcases q_jo (k+y) (q-1) with h'|h'
    ·-- the next word begins behind it
     have b1:=(hx.dropk (k+y) (by omega))
     have b2:∀{q ts e},LxG tx q ts e->1<ts.length->(ts.getD 0 tk0).p+(ts.getD 0 tk0).w.length<=(ts.getD 1 tk0).p:=fun {q ts e} hh Am=>by
      cases hh with
      |nil=>simp at Am
      |bad=>simp at Am
      |tok hq h r=>
       have:=(Pe hq h).2.2.2.1;have r1:=r.ends.2 0 (by simpa using Am);simp only[List.getD_cons_zero,List.getD_cons_succ,this];omega
     have b3:=b2 b1 (by rw[q_kg];omega);have e2:∀z,(ts.drop (k+y)).getD z tk0=ts.getD (k+y+z) tk0:=fun z=>by simp[q_j,q_kj]
     rw[e2,e2] at b3;have b4:=hx.order (k:=k+y+1) (k':=q-1) (by omega) (by omega);simp only[q_jp] at b3;omega
    ·have:k+y=q-1:=by omega
     rw[this];exact q_ja _
   unfold tk0 at a1 a2;unfold tk0;omega) (by
   have e1:=hgd (q-k-1) (by rw[q_kg];omega);unfold tk0 at e1;rw[e1,show k+(q-k-1)=q-1 by omega];show _<=(ts.getD (q-1) _).p-P+(ts.getD (q-1) _).w.length+_;unfold tk0 at hP;unfold tk0;omega)
 rw[show q-k-1+1=q-k by omega,<-List.map_take] at h3;cases hd:(ts.drop k).take (q-k) with
 |nil=>have:=congrArg List.length hd;rw[q_kf,q_kg,List.length_nil] at this;omega
 |cons t r=>
  rw[hd] at h3;rw[q_h] at h3 |-;exact h3.all
open Go Go.RowKit Go.Proofs.YtgfehkhcmnfpaaaGreatDoor
section
variable{c:RC}{T:TR}{f:Nat}{ns:List By}{k:Nat}{s:RS}{G:GV}
def lg_L(hc:Dc c)(hT:TCG c T f)(Bk:ns.length+3*f+2<100000000000)(hk:k<=12)(hb:s.bad=false)(hN:NGr s.D)(hG:NGr G)(hs:c.L.length<s.k+f):LCG c T ns k [76] s G:=by
 obtain⟨k0,b0,a0,D0⟩:=s;simp only at hs hN hb;subst hb;have Ar:ofR k=1:=by unfold ofR;rw[if_pos hk]
 have Gg:(k:Int)<=12:=by omega
 have Bx:k≠23:=by omega
 have Al:((k:Int)==23)=false:=by rw[beq_eq_false_iff_ne];omega
 have c0:=Lu (nm:=nmG ns) (G:=G++D0) hc (c.L.length+1) ⟨k0,false,a0,D0⟩ (q_ja _) (by simp only;omega) (by omega);have d0:=(Lw (c:=c) (c.L.length+1) ⟨k0,false,a0,D0⟩).symm;have m0:=Ei (c:=c) (c.L.length+1) ⟨k0,false,a0,D0⟩;generalize e0:Af c (c.L.length+1) ⟨k0,false,a0,D0⟩=q at c0 d0 m0;obtain⟨u0,k1,b1,a1,E1⟩:=q;simp only at c0 d0 m0;subst d0;refine⟨?_,?_,?_⟩;rotate_left
 ·have eR:Ai c T ns k [76] ⟨k0,false,a0,D0⟩=(.mk k (u0:Nat) (0:Nat) 0 [],(Ad c ⟨k1,b1,a1,D0⟩ 2).2):=by simp only[Ai,As,Au,Aw,Bt,Ar,q_kl,q_km,e0];rfl
  rw[eR];refine q_kn ?_ (Ce 2);first|omega|(simp only;omega)
 ·have eR:Ai c T ns k [76] ⟨k0,false,a0,D0⟩=(.mk k (u0:Nat) (0:Nat) 0 [],(Ad c ⟨k1,b1,a1,D0⟩ 2).2):=by simp only[Ai,As,Au,Aw,Bt,Ar,q_kl,q_km,e0];rfl
  rw[eR];rw[Bn];exact hN
 refine Ib (r:=.agg true (tvn (Ai c T ns k [76] ⟨k0,false,a0,D0⟩).1)) ?_ (Jd _);have Mk:1<=140737488355328:=by decide
 refine Bq mixed Tryz.func190 tr190 ?_;unfold rdS at c0 |-;simp only[go_sem,seval,Gg];refine Dv 2 (Ao ?_);simp only[go_sem,seval,v76,wq7,wq8,Al];refine Ac c0 ?_;simp only[go_sem,seval,v76,wq7,wq8,Al];refine Ao ?_;have ce:=Cs (nm:=nmG ns) (s:=⟨k1,b1,a1,D0⟩) (G:=G++D0) hc 2;have eR:Ai c T ns k [76] ⟨k0,false,a0,D0⟩=(.mk k (u0:Nat) (0:Nat) 0 [],(Ad c ⟨k1,b1,a1,D0⟩ 2).2):=by simp only[Ai,As,Au,Aw,Bt,Ar,q_kl,q_km,e0];rfl
 rw[eR,Bn,Ip];unfold rdS at ce;simp only[go_sem,seval,v76,wq7,wq8,Al];refine Ac ce ?_;simp only[go_sem,seval,v76,wq7,wq8,Al,q_h,q_i]
def Ako(hc:Dc c)(hT:TCG c T f)(Bk:ns.length+3*f+2<100000000000)(hk:12<k/\k≠23)(hb:s.bad=false)(hN:NGr s.D)(hG:NGr G)(hs:c.L.length<s.k+f):LCG c T ns k [116,116] s G:=by
 obtain⟨k0,b0,a0,D0⟩:=s;simp only at hs hN hb;subst hb;have Ar:ofR k=2:=by unfold ofR;rw[if_neg (by omega)]
 have Gg:¬(k:Int)<=12:=by omega
 have Bx:k≠23:=hk.2;have Al:((k:Int)==23)=false:=by rw[beq_eq_false_iff_ne];omega
 have t0:=hT ns 2 ⟨k0,false,a0,D0⟩ G (by first|omega|(simp only;omega)) (by first|omega|(simp at Bk |-;omega)) (by decide) hN hG;generalize e0:T ns 2 ⟨k0,false,a0,D0⟩=q at t0;obtain⟨u0,k1,b1,a1,D1⟩:=q;obtain⟨c0,m0,N1⟩:=t0;simp only at c0 m0 N1;have z0:=Br u0;have t1:=hT ns 2 ⟨k1,false,a1,D1⟩ G (by first|omega|(simp only;omega)) (by first|omega|(simp at Bk |-;omega)) (by decide) N1 hG;generalize e1:T ns 2 ⟨k1,false,a1,D1⟩=q at t1;obtain⟨u1,k2,b2,a2,D2⟩:=q;obtain⟨c1,m1,N2⟩:=t1;simp only at c1 m1 N2;have z1:=Br u1;refine⟨?_,?_,?_⟩;rotate_left
 ·cases b1;rotate_left
  ·have eR:Ai c T ns k [116,116] ⟨k0,false,a0,D0⟩=(.mk k (0:Nat) (0:Nat) 0 [u0],(Ad c ⟨k1,true,a1,D1⟩ 2).2):=by simp only[Ai,As,Au,Aw,Az,Ar,q_kl,q_km,e0];rfl
   rw[eR];refine q_kn ?_ (Ce 2);first|omega|(simp only;omega)
  have eR:Ai c T ns k [116,116] ⟨k0,false,a0,D0⟩=(.mk k (0:Nat) (0:Nat) 0 [u0,u1],(Ad c ⟨k2,b2,a2,D2⟩ 2).2):=by simp only[Ai,As,Au,Aw,Az,Ar,q_kl,q_km,e0,e1];rfl
  rw[eR];refine q_kn ?_ (Ce 2);first|omega|(simp only;omega)
 ·cases b1;rotate_left
  ·have eR:Ai c T ns k [116,116] ⟨k0,false,a0,D0⟩=(.mk k (0:Nat) (0:Nat) 0 [u0],(Ad c ⟨k1,true,a1,D1⟩ 2).2):=by simp only[Ai,As,Au,Aw,Az,Ar,q_kl,q_km,e0];rfl
   rw[eR];rw[Bn];exact N1
  have eR:Ai c T ns k [116,116] ⟨k0,false,a0,D0⟩=(.mk k (0:Nat) (0:Nat) 0 [u0,u1],(Ad c ⟨k2,b2,a2,D2⟩ 2).2):=by simp only[Ai,As,Au,Aw,Az,Ar,q_kl,q_km,e0,e1];rfl
  rw[eR];rw[Bn];exact N2
 refine Ib (r:=.agg true (tvn (Ai c T ns k [116,116] ⟨k0,false,a0,D0⟩).1)) ?_ (Jd _);have Mk:2<=140737488355328:=by decide
 refine Bq mixed Tryz.func190 tr190 ?_;unfold rdS at c0 c1 |-;simp only[go_sem,seval,Gg];refine Dv 3 (Ao ?_);simp only[go_sem,seval,v116,wq7,wq8,Al,z0,z1];refine Ac c0 ?_;simp only[go_sem,seval,v116,wq7,wq8,Al,z0,z1];cases b1;rotate_left
 ·refine Ao ?_;have ce:=Cs (nm:=nmG ns) (s:=⟨k1,true,a1,D1⟩) (G:=G++D1) hc 2;have eR:Ai c T ns k [116,116] ⟨k0,false,a0,D0⟩=(.mk k (0:Nat) (0:Nat) 0 [u0],(Ad c ⟨k1,true,a1,D1⟩ 2).2):=by simp only[Ai,As,Au,Aw,Az,Ar,q_kl,q_km,e0];rfl
  rw[eR,Bn,Eo];unfold rdS at ce;simp only[go_sem,seval,v116,wq7,wq8,Al,z0,z1];refine Ac ce ?_;simp only[go_sem,seval,v116,wq7,wq8,Al,z0,z1,q_h,q_i]
 refine Ao ?_;simp only[go_sem,seval,v116,wq7,wq8,Al,z0,z1];refine Ac c1 ?_;simp only[go_sem,seval,v116,wq7,wq8,Al,z0,z1];refine Ao ?_;have ce:=Cs (nm:=nmG ns) (s:=⟨k2,b2,a2,D2⟩) (G:=G++D2) hc 2;have eR:Ai c T ns k [116,116] ⟨k0,false,a0,D0⟩=(.mk k (0:Nat) (0:Nat) 0 [u0,u1],(Ad c ⟨k2,b2,a2,D2⟩ 2).2):=by simp only[Ai,As,Au,Aw,Az,Ar,q_kl,q_km,e0,e1];rfl
 rw[eR,Bn,Eo];unfold rdS at ce;simp only[go_sem,seval,v116,wq7,wq8,Al,z0,z1];refine Ac ce ?_;simp only[go_sem,seval,v116,wq7,wq8,Al,z0,z1,q_h,q_i]
def lg_t(hc:Dc c)(hT:TCG c T f)(Bk:ns.length+3*f+2<100000000000)(hk:12<k/\k≠23)(hb:s.bad=false)(hN:NGr s.D)(hG:NGr G)(hs:c.L.length<s.k+f):LCG c T ns k [116] s G:=by
 obtain⟨k0,b0,a0,D0⟩:=s;simp only at hs hN hb;subst hb;have Ar:ofR k=2:=by unfold ofR;rw[if_neg (by omega)]
 have Gg:¬(k:Int)<=12:=by omega
 have Bx:k≠23:=hk.2;have Al:((k:Int)==23)=false:=by rw[beq_eq_false_iff_ne];omega
 have t0:=hT ns 2 ⟨k0,false,a0,D0⟩ G (by first|omega|(simp only;omega)) (by first|omega|(simp at Bk |-;omega)) (by decide) hN hG;generalize e0:T ns 2 ⟨k0,false,a0,D0⟩=q at t0;obtain⟨u0,k1,b1,a1,D1⟩:=q;obtain⟨c0,m0,N1⟩:=t0;simp only at c0 m0 N1;have z0:=Br u0;refine⟨?_,?_,?_⟩;rotate_left
 ·have eR:Ai c T ns k [116] ⟨k0,false,a0,D0⟩=(.mk k (0:Nat) (0:Nat) 0 [u0],(Ad c ⟨k1,b1,a1,D1⟩ 2).2):=by simp only[Ai,As,Au,Aw,Az,Ar,q_kl,q_km,e0];rfl
  rw[eR];refine q_kn ?_ (Ce 2);first|omega|(simp only;omega)
 ·have eR:Ai c T ns k [116] ⟨k0,false,a0,D0⟩=(.mk k (0:Nat) (0:Nat) 0 [u0],(Ad c ⟨k1,b1,a1,D1⟩ 2).2):=by simp only[Ai,As,Au,Aw,Az,Ar,q_kl,q_km,e0];rfl
  rw[eR];rw[Bn];exact N1
 refine Ib (r:=.agg true (tvn (Ai c T ns k [116] ⟨k0,false,a0,D0⟩).1)) ?_ (Jd _);have Mk:1<=140737488355328:=by decide
 refine Bq mixed Tryz.func190 tr190 ?_;unfold rdS at c0 |-;simp only[go_sem,seval,Gg];refine Dv 2 (Ao ?_);simp only[go_sem,seval,v116,wq7,wq8,Al,z0];refine Ac c0 ?_;simp only[go_sem,seval,v116,wq7,wq8,Al,z0];refine Ao ?_;have ce:=Cs (nm:=nmG ns) (s:=⟨k1,b1,a1,D1⟩) (G:=G++D1) hc 2;have eR:Ai c T ns k [116] ⟨k0,false,a0,D0⟩=(.mk k (0:Nat) (0:Nat) 0 [u0],(Ad c ⟨k1,b1,a1,D1⟩ 2).2):=by simp only[Ai,As,Au,Aw,Az,Ar,q_kl,q_km,e0];rfl
 rw[eR,Bn,Eo];unfold rdS at ce;simp only[go_sem,seval,v116,wq7,wq8,Al,z0];refine Ac ce ?_;simp only[go_sem,seval,v116,wq7,wq8,Al,z0,q_h,q_i]
def Axr(hc:Dc c)(hT:TCG c T f)(Bk:ns.length+3*f+2<100000000000)(hk:12<k/\k≠23)(hb:s.bad=false)(hN:NGr s.D)(hG:NGr G)(hs:c.L.length<s.k+f):LCG c T ns k [116,116,116] s G:=by
 obtain⟨k0,b0,a0,D0⟩:=s;simp only at hs hN hb;subst hb;have Ar:ofR k=2:=by unfold ofR;rw[if_neg (by omega)]
 have Gg:¬(k:Int)<=12:=by omega
 have Bx:k≠23:=hk.2;have Al:((k:Int)==23)=false:=by rw[beq_eq_false_iff_ne];omega
 have t0:=hT ns 2 ⟨k0,false,a0,D0⟩ G (by first|omega|(simp only;omega)) (by first|omega|(simp at Bk |-;omega)) (by decide) hN hG;generalize e0:T ns 2 ⟨k0,false,a0,D0⟩=q at t0;obtain⟨u0,k1,b1,a1,D1⟩:=q;obtain⟨c0,m0,N1⟩:=t0;simp only at c0 m0 N1;have z0:=Br u0;have t1:=hT ns 2 ⟨k1,false,a1,D1⟩ G (by first|omega|(simp only;omega)) (by first|omega|(simp at Bk |-;omega)) (by decide) N1 hG;generalize e1:T ns 2 ⟨k1,false,a1,D1⟩=q at t1;obtain⟨u1,k2,b2,a2,D2⟩:=q;obtain⟨c1,m1,N2⟩:=t1;simp only at c1 m1 N2;have z1:=Br u1;have t2:=hT ns 2 ⟨k2,false,a2,D2⟩ G (by first|omega|(simp only;omega)) (by first|omega|(simp at Bk |-;omega)) (by decide) N2 hG;generalize e2:T ns 2 ⟨k2,false,a2,D2⟩=q at t2;obtain⟨u2,k3,b3,a3,D3⟩:=q;obtain⟨c2,m2,N3⟩:=t2;simp only at c2 m2 N3;have z2:=Br u2;refine⟨?_,?_,?_⟩;rotate_left
 ·cases b1;rotate_left
  ·have eR:Ai c T ns k [116,116,116] ⟨k0,false,a0,D0⟩=(.mk k (0:Nat) (0:Nat) 0 [u0],(Ad c ⟨k1,true,a1,D1⟩ 2).2):=by simp only[Ai,As,Au,Aw,Az,Ar,q_kl,q_km,e0];rfl
   rw[eR];refine q_kn ?_ (Ce 2);first|omega|(simp only;omega)
  cases b2;rotate_left
  ·have eR:Ai c T ns k [116,116,116] ⟨k0,false,a0,D0⟩=(.mk k (0:Nat) (0:Nat) 0 [u0,u1],(Ad c ⟨k2,true,a2,D2⟩ 2).2):=by simp only[Ai,As,Au,Aw,Az,Ar,q_kl,q_km,e0,e1];rfl
   rw[eR];refine q_kn ?_ (Ce 2);first|omega|(simp only;omega)
  have eR:Ai c T ns k [116,116,116] ⟨k0,false,a0,D0⟩=(.mk k (0:Nat) (0:Nat) 0 [u0,u1,u2],(Ad c ⟨k3,b3,a3,D3⟩ 2).2):=by simp only[Ai,As,Au,Aw,Az,Ar,q_kl,q_km,e0,e1,e2];rfl
  rw[eR];refine q_kn ?_ (Ce 2);first|omega|(simp only;omega)
 ·cases b1;rotate_left
  ·have eR:Ai c T ns k [116,116,116] ⟨k0,false,a0,D0⟩=(.mk k (0:Nat) (0:Nat) 0 [u0],(Ad c ⟨k1,true,a1,D1⟩ 2).2):=by simp only[Ai,As,Au,Aw,Az,Ar,q_kl,q_km,e0];rfl
   rw[eR];rw[Bn];exact N1
  cases b2;rotate_left
  ·have eR:Ai c T ns k [116,116,116] ⟨k0,false,a0,D0⟩=(.mk k (0:Nat) (0:Nat) 0 [u0,u1],(Ad c ⟨k2,true,a2,D2⟩ 2).2):=by simp only[Ai,As,Au,Aw,Az,Ar,q_kl,q_km,e0,e1];rfl
   rw[eR];rw[Bn];exact N2
  have eR:Ai c T ns k [116,116,116] ⟨k0,false,a0,D0⟩=(.mk k (0:Nat) (0:Nat) 0 [u0,u1,u2],(Ad c ⟨k3,b3,a3,D3⟩ 2).2):=by simp only[Ai,As,Au,Aw,Az,Ar,q_kl,q_km,e0,e1,e2];rfl
  rw[eR];rw[Bn];exact N3
 refine Ib (r:=.agg true (tvn (Ai c T ns k [116,116,116] ⟨k0,false,a0,D0⟩).1)) ?_ (Jd _);have Mk:3<=140737488355328:=by decide
 refine Bq mixed Tryz.func190 tr190 ?_;unfold rdS at c0 c1 c2 |-;simp only[go_sem,seval,Gg];refine Dv 4 (Ao ?_);simp only[go_sem,seval,v116,wq7,wq8,Al,z0,z1,z2];refine Ac c0 ?_;simp only[go_sem,seval,v116,wq7,wq8,Al,z0,z1,z2];cases b1;rotate_left
 ·refine Ao ?_;have ce:=Cs (nm:=nmG ns) (s:=⟨k1,true,a1,D1⟩) (G:=G++D1) hc 2;have eR:Ai c T ns k [116,116,116] ⟨k0,false,a0,D0⟩=(.mk k (0:Nat) (0:Nat) 0 [u0],(Ad c ⟨k1,true,a1,D1⟩ 2).2):=by simp only[Ai,As,Au,Aw,Az,Ar,q_kl,q_km,e0];rfl
  rw[eR,Bn,Eo];unfold rdS at ce;simp only[go_sem,seval,v116,wq7,wq8,Al,z0,z1,z2];refine Ac ce ?_;simp only[go_sem,seval,v116,wq7,wq8,Al,z0,z1,z2,q_h,q_i]
 refine Ao ?_;simp only[go_sem,seval,v116,wq7,wq8,Al,z0,z1,z2];refine Ac c1 ?_;simp only[go_sem,seval,v116,wq7,wq8,Al,z0,z1,z2];cases b2;rotate_left
 ·refine Ao ?_;have ce:=Cs (nm:=nmG ns) (s:=⟨k2,true,a2,D2⟩) (G:=G++D2) hc 2;have eR:Ai c T ns k [116,116,116] ⟨k0,false,a0,D0⟩=(.mk k (0:Nat) (0:Nat) 0 [u0,u1],(Ad c ⟨k2,true,a2,D2⟩ 2).2):=by simp only[Ai,As,Au,Aw,Az,Ar,q_kl,q_km,e0,e1];rfl
  rw[eR,Bn,Eo];unfold rdS at ce;simp only[go_sem,seval,v116,wq7,wq8,Al,z0,z1,z2];refine Ac ce ?_;simp only[go_sem,seval,v116,wq7,wq8,Al,z0,z1,z2,q_h,q_i]
 refine Ao ?_;simp only[go_sem,seval,v116,wq7,wq8,Al,z0,z1,z2];refine Ac c2 ?_;simp only[go_sem,seval,v116,wq7,wq8,Al,z0,z1,z2];refine Ao ?_;have ce:=Cs (nm:=nmG ns) (s:=⟨k3,b3,a3,D3⟩) (G:=G++D3) hc 2;have eR:Ai c T ns k [116,116,116] ⟨k0,false,a0,D0⟩=(.mk k (0:Nat) (0:Nat) 0 [u0,u1,u2],(Ad c ⟨k3,b3,a3,D3⟩ 2).2):=by simp only[Ai,As,Au,Aw,Az,Ar,q_kl,q_km,e0,e1,e2];rfl
 rw[eR,Bn,Eo];unfold rdS at ce;simp only[go_sem,seval,v116,wq7,wq8,Al,z0,z1,z2];refine Ac ce ?_;simp only[go_sem,seval,v116,wq7,wq8,Al,z0,z1,z2,q_h,q_i]
def Axo(hc:Dc c)(hT:TCG c T f)(Bk:ns.length+3*f+2<100000000000)(hk:k<=12)(hb:s.bad=false)(hN:NGr s.D)(hG:NGr G)(hs:c.L.length<s.k+f):LCG c T ns k [76,116,116,116] s G:=by
 obtain⟨k0,b0,a0,D0⟩:=s;simp only at hs hN hb;subst hb;have Ar:ofR k=1:=by unfold ofR;rw[if_pos hk]
 have Gg:(k:Int)<=12:=by omega
 have Bx:k≠23:=by omega
 have Al:((k:Int)==23)=false:=by rw[beq_eq_false_iff_ne];omega
 have c0:=Lu (nm:=nmG ns) (G:=G++D0) hc (c.L.length+1) ⟨k0,false,a0,D0⟩ (q_ja _) (by simp only;omega) (by omega);have d0:=(Lw (c:=c) (c.L.length+1) ⟨k0,false,a0,D0⟩).symm;have m0:=Ei (c:=c) (c.L.length+1) ⟨k0,false,a0,D0⟩;generalize e0:Af c (c.L.length+1) ⟨k0,false,a0,D0⟩=q at c0 d0 m0;obtain⟨u0,k1,b1,a1,E1⟩:=q;simp only at c0 d0 m0;subst d0;have t1:=hT ns 1 ⟨k1,false,a1,D0⟩ G (by first|omega|(simp only;omega)) (by first|omega|(simp at Bk |-;omega)) (by decide) hN hG;generalize e1:T ns 1 ⟨k1,false,a1,D0⟩=q at t1;obtain⟨u1,k2,b2,a2,D2⟩:=q;obtain⟨c1,m1,N2⟩:=t1;simp only at c1 m1 N2;have z1:=Br u1;have t2:=hT ns 1 ⟨k2,false,a2,D2⟩ G (by first|omega|(simp only;omega)) (by first|omega|(simp at Bk |-;omega)) (by decide) N2 hG;generalize e2:T ns 1 ⟨k2,false,a2,D2⟩=q at t2;obtain⟨u2,k3,b3,a3,D3⟩:=q;obtain⟨c2,m2,N3⟩:=t2;simp only at c2 m2 N3;have z2:=Br u2;have t3:=hT ns 1 ⟨k3,false,a3,D3⟩ G (by first|omega|(simp only;omega)) (by first|omega|(simp at Bk |-;omega)) (by decide) N3 hG;generalize e3:T ns 1 ⟨k3,false,a3,D3⟩=q at t3;obtain⟨u3,k4,b4,a4,D4⟩:=q;obtain⟨c3,m3,N4⟩:=t3;simp only at c3 m3 N4;have z3:=Br u3;refine⟨?_,?_,?_⟩;rotate_left
 ·cases b1;rotate_left
  ·have eR:Ai c T ns k [76,116,116,116] ⟨k0,false,a0,D0⟩=(.mk k (u0:Nat) (0:Nat) 0 [],(Ad c ⟨k1,true,a1,D0⟩ 2).2):=by simp only[Ai,As,Au,Aw,Bt,Az,Ar,q_kl,q_km,e0];rfl
   rw[eR];refine q_kn ?_ (Ce 2);first|omega|(simp only;omega)
  cases b2;rotate_left
  ·have eR:Ai c T ns k [76,116,116,116] ⟨k0,false,a0,D0⟩=(.mk k (u0:Nat) (0:Nat) 0 [u1],(Ad c ⟨k2,true,a2,D2⟩ 2).2):=by simp only[Ai,As,Au,Aw,Bt,Az,Ar,q_kl,q_km,e0,e1];rfl
   rw[eR];refine q_kn ?_ (Ce 2);first|omega|(simp only;omega)
  cases b3;rotate_left
  ·have eR:Ai c T ns k [76,116,116,116] ⟨k0,false,a0,D0⟩=(.mk k (u0:Nat) (0:Nat) 0 [u1,u2],(Ad c ⟨k3,true,a3,D3⟩ 2).2):=by simp only[Ai,As,Au,Aw,Bt,Az,Ar,q_kl,q_km,e0,e1,e2];rfl
   rw[eR];refine q_kn ?_ (Ce 2);first|omega|(simp only;omega)
  have eR:Ai c T ns k [76,116,116,116] ⟨k0,false,a0,D0⟩=(.mk k (u0:Nat) (0:Nat) 0 [u1,u2,u3],(Ad c ⟨k4,b4,a4,D4⟩ 2).2):=by simp only[Ai,As,Au,Aw,Bt,Az,Ar,q_kl,q_km,e0,e1,e2,e3];rfl
  rw[eR];refine q_kn ?_ (Ce 2);first|omega|(simp only;omega)
 ·cases b1;rotate_left
  ·have eR:Ai c T ns k [76,116,116,116] ⟨k0,false,a0,D0⟩=(.mk k (u0:Nat) (0:Nat) 0 [],(Ad c ⟨k1,true,a1,D0⟩ 2).2):=by simp only[Ai,As,Au,Aw,Bt,Az,Ar,q_kl,q_km,e0];rfl
   rw[eR];rw[Bn];exact hN
  cases b2;rotate_left
  ·have eR:Ai c T ns k [76,116,116,116] ⟨k0,false,a0,D0⟩=(.mk k (u0:Nat) (0:Nat) 0 [u1],(Ad c ⟨k2,true,a2,D2⟩ 2).2):=by simp only[Ai,As,Au,Aw,Bt,Az,Ar,q_kl,q_km,e0,e1];rfl
   rw[eR];rw[Bn];exact N2
  cases b3;rotate_left
  ·have eR:Ai c T ns k [76,116,116,116] ⟨k0,false,a0,D0⟩=(.mk k (u0:Nat) (0:Nat) 0 [u1,u2],(Ad c ⟨k3,true,a3,D3⟩ 2).2):=by simp only[Ai,As,Au,Aw,Bt,Az,Ar,q_kl,q_km,e0,e1,e2];rfl
   rw[eR];rw[Bn];exact N3
  have eR:Ai c T ns k [76,116,116,116] ⟨k0,false,a0,D0⟩=(.mk k (u0:Nat) (0:Nat) 0 [u1,u2,u3],(Ad c ⟨k4,b4,a4,D4⟩ 2).2):=by simp only[Ai,As,Au,Aw,Bt,Az,Ar,q_kl,q_km,e0,e1,e2,e3];rfl
  rw[eR];rw[Bn];exact N4
 refine Ib (r:=.agg true (tvn (Ai c T ns k [76,116,116,116] ⟨k0,false,a0,D0⟩).1)) ?_ (Jd _);have Mk:4<=140737488355328:=by decide
 refine Bq mixed Tryz.func190 tr190 ?_;unfold rdS at c0 c1 c2 c3 |-;simp only[go_sem,seval,Gg];refine Dv 5 (Ao ?_);simp only[go_sem,seval,v76,v116,wq7,wq8,Al,z1,z2,z3];refine Ac c0 ?_;simp only[go_sem,seval,v76,v116,wq7,wq8,Al,z1,z2,z3];cases b1;rotate_left
 ·refine Ao ?_;have ce:=Cs (nm:=nmG ns) (s:=⟨k1,true,a1,D0⟩) (G:=G++D0) hc 2;have eR:Ai c T ns k [76,116,116,116] ⟨k0,false,a0,D0⟩=(.mk k (u0:Nat) (0:Nat) 0 [],(Ad c ⟨k1,true,a1,D0⟩ 2).2):=by simp only[Ai,As,Au,Aw,Bt,Az,Ar,q_kl,q_km,e0];rfl
  rw[eR,Bn,Ip];unfold rdS at ce;simp only[go_sem,seval,v76,v116,wq7,wq8,Al,z1,z2,z3];refine Ac ce ?_;simp only[go_sem,seval,v76,v116,wq7,wq8,Al,z1,z2,z3,q_h,q_i]
 refine Ao ?_;simp only[go_sem,seval,v76,v116,wq7,wq8,Al,z1,z2,z3];refine Ac c1 ?_;simp only[go_sem,seval,v76,v116,wq7,wq8,Al,z1,z2,z3];cases b2;rotate_left
 ·refine Ao ?_;have ce:=Cs (nm:=nmG ns) (s:=⟨k2,true,a2,D2⟩) (G:=G++D2) hc 2;have eR:Ai c T ns k [76,116,116,116] ⟨k0,false,a0,D0⟩=(.mk k (u0:Nat) (0:Nat) 0 [u1],(Ad c ⟨k2,true,a2,D2⟩ 2).2):=by simp only[Ai,As,Au,Aw,Bt,Az,Ar,q_kl,q_km,e0,e1];rfl
  rw[eR,Bn,Eo];unfold rdS at ce;simp only[go_sem,seval,v76,v116,wq7,wq8,Al,z1,z2,z3];refine Ac ce ?_;simp only[go_sem,seval,v76,v116,wq7,wq8,Al,z1,z2,z3,q_h,q_i]
 refine Ao ?_;simp only[go_sem,seval,v76,v116,wq7,wq8,Al,z1,z2,z3];refine Ac c2 ?_;simp only[go_sem,seval,v76,v116,wq7,wq8,Al,z1,z2,z3];cases b3;rotate_left
 ·refine Ao ?_;have ce:=Cs (nm:=nmG ns) (s:=⟨k3,true,a3,D3⟩) (G:=G++D3) hc 2;have eR:Ai c T ns k [76,116,116,116] ⟨k0,false,a0,D0⟩=(.mk k (u0:Nat) (0:Nat) 0 [u1,u2],(Ad c ⟨k3,true,a3,D3⟩ 2).2):=by simp only[Ai,As,Au,Aw,Bt,Az,Ar,q_kl,q_km,e0,e1,e2];rfl
  rw[eR,Bn,Eo];unfold rdS at ce;simp only[go_sem,seval,v76,v116,wq7,wq8,Al,z1,z2,z3];refine Ac ce ?_;simp only[go_sem,seval,v76,v116,wq7,wq8,Al,z1,z2,z3,q_h,q_i]
 refine Ao ?_;simp only[go_sem,seval,v76,v116,wq7,wq8,Al,z1,z2,z3];refine Ac c3 ?_;simp only[go_sem,seval,v76,v116,wq7,wq8,Al,z1,z2,z3];refine Ao ?_;have ce:=Cs (nm:=nmG ns) (s:=⟨k4,b4,a4,D4⟩) (G:=G++D4) hc 2;have eR:Ai c T ns k [76,116,116,116] ⟨k0,false,a0,D0⟩=(.mk k (u0:Nat) (0:Nat) 0 [u1,u2,u3],(Ad c ⟨k4,b4,a4,D4⟩ 2).2):=by simp only[Ai,As,Au,Aw,Bt,Az,Ar,q_kl,q_km,e0,e1,e2,e3];rfl
 rw[eR,Bn,Eo];unfold rdS at ce;simp only[go_sem,seval,v76,v116,wq7,wq8,Al,z1,z2,z3];refine Ac ce ?_;simp only[go_sem,seval,v76,v116,wq7,wq8,Al,z1,z2,z3,q_h,q_i]
def Axm(hc:Dc c)(hT:TCG c T f)(Bk:ns.length+3*f+2<100000000000)(hk:k<=12)(hb:s.bad=false)(hN:NGr s.D)(hG:NGr G)(hs:c.L.length<s.k+f):LCG c T ns k [76,116,116] s G:=by
 obtain⟨k0,b0,a0,D0⟩:=s;simp only at hs hN hb;subst hb;have Ar:ofR k=1:=by unfold ofR;rw[if_pos hk]
 have Gg:(k:Int)<=12:=by omega
 have Bx:k≠23:=by omega
 have Al:((k:Int)==23)=false:=by rw[beq_eq_false_iff_ne];omega
 have c0:=Lu (nm:=nmG ns) (G:=G++D0) hc (c.L.length+1) ⟨k0,false,a0,D0⟩ (q_ja _) (by simp only;omega) (by omega);have d0:=(Lw (c:=c) (c.L.length+1) ⟨k0,false,a0,D0⟩).symm;have m0:=Ei (c:=c) (c.L.length+1) ⟨k0,false,a0,D0⟩;generalize e0:Af c (c.L.length+1) ⟨k0,false,a0,D0⟩=q at c0 d0 m0;obtain⟨u0,k1,b1,a1,E1⟩:=q;simp only at c0 d0 m0;subst d0;have t1:=hT ns 1 ⟨k1,false,a1,D0⟩ G (by first|omega|(simp only;omega)) (by first|omega|(simp at Bk |-;omega)) (by decide) hN hG;generalize e1:T ns 1 ⟨k1,false,a1,D0⟩=q at t1;obtain⟨u1,k2,b2,a2,D2⟩:=q;obtain⟨c1,m1,N2⟩:=t1;simp only at c1 m1 N2;have z1:=Br u1;have t2:=hT ns 1 ⟨k2,false,a2,D2⟩ G (by first|omega|(simp only;omega)) (by first|omega|(simp at Bk |-;omega)) (by decide) N2 hG;generalize e2:T ns 1 ⟨k2,false,a2,D2⟩=q at t2;obtain⟨u2,k3,b3,a3,D3⟩:=q;obtain⟨c2,m2,N3⟩:=t2;simp only at c2 m2 N3;have z2:=Br u2;refine⟨?_,?_,?_⟩;rotate_left
 ·cases b1;rotate_left
  ·have eR:Ai c T ns k [76,116,116] ⟨k0,false,a0,D0⟩=(.mk k (u0:Nat) (0:Nat) 0 [],(Ad c ⟨k1,true,a1,D0⟩ 2).2):=by simp only[Ai,As,Au,Aw,Bt,Az,Ar,q_kl,q_km,e0];rfl
   rw[eR];refine q_kn ?_ (Ce 2);first|omega|(simp only;omega)
  cases b2;rotate_left
  ·have eR:Ai c T ns k [76,116,116] ⟨k0,false,a0,D0⟩=(.mk k (u0:Nat) (0:Nat) 0 [u1],(Ad c ⟨k2,true,a2,D2⟩ 2).2):=by simp only[Ai,As,Au,Aw,Bt,Az,Ar,q_kl,q_km,e0,e1];rfl
   rw[eR];refine q_kn ?_ (Ce 2);first|omega|(simp only;omega)
  have eR:Ai c T ns k [76,116,116] ⟨k0,false,a0,D0⟩=(.mk k (u0:Nat) (0:Nat) 0 [u1,u2],(Ad c ⟨k3,b3,a3,D3⟩ 2).2):=by simp only[Ai,As,Au,Aw,Bt,Az,Ar,q_kl,q_km,e0,e1,e2];rfl
  rw[eR];refine q_kn ?_ (Ce 2);first|omega|(simp only;omega)
 ·cases b1;rotate_left
  ·have eR:Ai c T ns k [76,116,116] ⟨k0,false,a0,D0⟩=(.mk k (u0:Nat) (0:Nat) 0 [],(Ad c ⟨k1,true,a1,D0⟩ 2).2):=by simp only[Ai,As,Au,Aw,Bt,Az,Ar,q_kl,q_km,e0];rfl
   rw[eR];rw[Bn];exact hN
  cases b2;rotate_left
  ·have eR:Ai c T ns k [76,116,116] ⟨k0,false,a0,D0⟩=(.mk k (u0:Nat) (0:Nat) 0 [u1],(Ad c ⟨k2,true,a2,D2⟩ 2).2):=by simp only[Ai,As,Au,Aw,Bt,Az,Ar,q_kl,q_km,e0,e1];rfl
   rw[eR];rw[Bn];exact N2
  have eR:Ai c T ns k [76,116,116] ⟨k0,false,a0,D0⟩=(.mk k (u0:Nat) (0:Nat) 0 [u1,u2],(Ad c ⟨k3,b3,a3,D3⟩ 2).2):=by simp only[Ai,As,Au,Aw,Bt,Az,Ar,q_kl,q_km,e0,e1,e2];rfl
  rw[eR];rw[Bn];exact N3
 refine Ib (r:=.agg true (tvn (Ai c T ns k [76,116,116] ⟨k0,false,a0,D0⟩).1)) ?_ (Jd _);have Mk:3<=140737488355328:=by decide
 refine Bq mixed Tryz.func190 tr190 ?_;unfold rdS at c0 c1 c2 |-;simp only[go_sem,seval,Gg];refine Dv 4 (Ao ?_);simp only[go_sem,seval,v76,v116,wq7,wq8,Al,z1,z2];refine Ac c0 ?_;simp only[go_sem,seval,v76,v116,wq7,wq8,Al,z1,z2];cases b1;rotate_left
 ·refine Ao ?_;have ce:=Cs (nm:=nmG ns) (s:=⟨k1,true,a1,D0⟩) (G:=G++D0) hc 2;have eR:Ai c T ns k [76,116,116] ⟨k0,false,a0,D0⟩=(.mk k (u0:Nat) (0:Nat) 0 [],(Ad c ⟨k1,true,a1,D0⟩ 2).2):=by simp only[Ai,As,Au,Aw,Bt,Az,Ar,q_kl,q_km,e0];rfl
  rw[eR,Bn,Ip];unfold rdS at ce;simp only[go_sem,seval,v76,v116,wq7,wq8,Al,z1,z2];refine Ac ce ?_;simp only[go_sem,seval,v76,v116,wq7,wq8,Al,z1,z2,q_h,q_i]
 refine Ao ?_;simp only[go_sem,seval,v76,v116,wq7,wq8,Al,z1,z2];refine Ac c1 ?_;simp only[go_sem,seval,v76,v116,wq7,wq8,Al,z1,z2];cases b2;rotate_left
 ·refine Ao ?_;have ce:=Cs (nm:=nmG ns) (s:=⟨k2,true,a2,D2⟩) (G:=G++D2) hc 2;have eR:Ai c T ns k [76,116,116] ⟨k0,false,a0,D0⟩=(.mk k (u0:Nat) (0:Nat) 0 [u1],(Ad c ⟨k2,true,a2,D2⟩ 2).2):=by simp only[Ai,As,Au,Aw,Bt,Az,Ar,q_kl,q_km,e0,e1];rfl
  rw[eR,Bn,Eo];unfold rdS at ce;simp only[go_sem,seval,v76,v116,wq7,wq8,Al,z1,z2];refine Ac ce ?_;simp only[go_sem,seval,v76,v116,wq7,wq8,Al,z1,z2,q_h,q_i]
 refine Ao ?_;simp only[go_sem,seval,v76,v116,wq7,wq8,Al,z1,z2];refine Ac c2 ?_;simp only[go_sem,seval,v76,v116,wq7,wq8,Al,z1,z2];refine Ao ?_;have ce:=Cs (nm:=nmG ns) (s:=⟨k3,b3,a3,D3⟩) (G:=G++D3) hc 2;have eR:Ai c T ns k [76,116,116] ⟨k0,false,a0,D0⟩=(.mk k (u0:Nat) (0:Nat) 0 [u1,u2],(Ad c ⟨k3,b3,a3,D3⟩ 2).2):=by simp only[Ai,As,Au,Aw,Bt,Az,Ar,q_kl,q_km,e0,e1,e2];rfl
 rw[eR,Bn,Eo];unfold rdS at ce;simp only[go_sem,seval,v76,v116,wq7,wq8,Al,z1,z2];refine Ac ce ?_;simp only[go_sem,seval,v76,v116,wq7,wq8,Al,z1,z2,q_h,q_i]
def Axn(hc:Dc c)(hT:TCG c T f)(Bk:ns.length+3*f+2<100000000000)(hk:k<=12)(hb:s.bad=false)(hN:NGr s.D)(hG:NGr G)(hs:c.L.length<s.k+f):LCG c T ns k [76,116,116,112,116] s G:=by
 obtain⟨k0,b0,a0,D0⟩:=s;simp only at hs hN hb;subst hb;have Ar:ofR k=1:=by unfold ofR;rw[if_pos hk]
 have Gg:(k:Int)<=12:=by omega
 have Bx:k≠23:=by omega
 have Al:((k:Int)==23)=false:=by rw[beq_eq_false_iff_ne];omega
 have c0:=Lu (nm:=nmG ns) (G:=G++D0) hc (c.L.length+1) ⟨k0,false,a0,D0⟩ (q_ja _) (by simp only;omega) (by omega);have d0:=(Lw (c:=c) (c.L.length+1) ⟨k0,false,a0,D0⟩).symm;have m0:=Ei (c:=c) (c.L.length+1) ⟨k0,false,a0,D0⟩;generalize e0:Af c (c.L.length+1) ⟨k0,false,a0,D0⟩=q at c0 d0 m0;obtain⟨u0,k1,b1,a1,E1⟩:=q;simp only at c0 d0 m0;subst d0;have t1:=hT ns 1 ⟨k1,false,a1,D0⟩ G (by first|omega|(simp only;omega)) (by first|omega|(simp at Bk |-;omega)) (by decide) hN hG;generalize e1:T ns 1 ⟨k1,false,a1,D0⟩=q at t1;obtain⟨u1,k2,b2,a2,D2⟩:=q;obtain⟨c1,m1,N2⟩:=t1;simp only at c1 m1 N2;have z1:=Br u1;have t2:=hT ns 1 ⟨k2,false,a2,D2⟩ G (by first|omega|(simp only;omega)) (by first|omega|(simp at Bk |-;omega)) (by decide) N2 hG;generalize e2:T ns 1 ⟨k2,false,a2,D2⟩=q at t2;obtain⟨u2,k3,b3,a3,D3⟩:=q;obtain⟨c2,m2,N3⟩:=t2;simp only at c2 m2 N3;have z2:=Br u2;have t3:=hT ns 2 ⟨k3,false,a3,D3⟩ G (by first|omega|(simp only;omega)) (by first|omega|(simp at Bk |-;omega)) (by decide) N3 hG;generalize e3:T ns 2 ⟨k3,false,a3,D3⟩=q at t3;obtain⟨u3,k4,b4,a4,D4⟩:=q;obtain⟨c3,m3,N4⟩:=t3;simp only at c3 m3 N4;have z3:=Br u3;have t4:=hT ns 1 ⟨k4,false,a4,D4⟩ G (by first|omega|(simp only;omega)) (by first|omega|(simp at Bk |-;omega)) (by decide) N4 hG;generalize e4:T ns 1 ⟨k4,false,a4,D4⟩=q at t4;obtain⟨u4,k5,b5,a5,D5⟩:=q;obtain⟨c4,m4,N5⟩:=t4;simp only at c4 m4 N5;have z4:=Br u4;refine⟨?_,?_,?_⟩;rotate_left
 ·cases b1;rotate_left
  ·have eR:Ai c T ns k [76,116,116,112,116] ⟨k0,false,a0,D0⟩=(.mk k (u0:Nat) (0:Nat) 0 [],(Ad c ⟨k1,true,a1,D0⟩ 2).2):=by simp only[Ai,As,Au,Aw,Bt,Lk,Az,Ar,q_kl,q_km,e0];rfl
   rw[eR];refine q_kn ?_ (Ce 2);first|omega|(simp only;omega)
  cases b2;rotate_left
  ·have eR:Ai c T ns k [76,116,116,112,116] ⟨k0,false,a0,D0⟩=(.mk k (u0:Nat) (0:Nat) 0 [u1],(Ad c ⟨k2,true,a2,D2⟩ 2).2):=by simp only[Ai,As,Au,Aw,Bt,Lk,Az,Ar,q_kl,q_km,e0,e1];rfl
   rw[eR];refine q_kn ?_ (Ce 2);first|omega|(simp only;omega)
  cases b3;rotate_left
  ·have eR:Ai c T ns k [76,116,116,112,116] ⟨k0,false,a0,D0⟩=(.mk k (u0:Nat) (0:Nat) 0 [u1,u2],(Ad c ⟨k3,true,a3,D3⟩ 2).2):=by simp only[Ai,As,Au,Aw,Bt,Lk,Az,Ar,q_kl,q_km,e0,e1,e2];rfl
   rw[eR];refine q_kn ?_ (Ce 2);first|omega|(simp only;omega)
  cases b4;rotate_left
  ·have eR:Ai c T ns k [76,116,116,112,116] ⟨k0,false,a0,D0⟩=(.mk k (u0:Nat) (0:Nat) 0 [u1,u2,u3],(Ad c ⟨k4,true,a4,D4⟩ 2).2):=by simp only[Ai,As,Au,Aw,Bt,Lk,Az,Ar,q_kl,q_km,e0,e1,e2,e3];rfl
   rw[eR];refine q_kn ?_ (Ce 2);first|omega|(simp only;omega)
  have eR:Ai c T ns k [76,116,116,112,116] ⟨k0,false,a0,D0⟩=(.mk k (u0:Nat) (0:Nat) 0 [u1,u2,u3,u4],(Ad c ⟨k5,b5,a5,D5⟩ 2).2):=by simp only[Ai,As,Au,Aw,Bt,Lk,Az,Ar,q_kl,q_km,e0,e1,e2,e3,e4];rfl
  rw[eR];refine q_kn ?_ (Ce 2);first|omega|(simp only;omega)
 ·cases b1;rotate_left
  ·have eR:Ai c T ns k [76,116,116,112,116] ⟨k0,false,a0,D0⟩=(.mk k (u0:Nat) (0:Nat) 0 [],(Ad c ⟨k1,true,a1,D0⟩ 2).2):=by simp only[Ai,As,Au,Aw,Bt,Lk,Az,Ar,q_kl,q_km,e0];rfl
   rw[eR];rw[Bn];exact hN
  cases b2;rotate_left
  ·have eR:Ai c T ns k [76,116,116,112,116] ⟨k0,false,a0,D0⟩=(.mk k (u0:Nat) (0:Nat) 0 [u1],(Ad c ⟨k2,true,a2,D2⟩ 2).2):=by simp only[Ai,As,Au,Aw,Bt,Lk,Az,Ar,q_kl,q_km,e0,e1];rfl
   rw[eR];rw[Bn];exact N2
  cases b3;rotate_left
  ·have eR:Ai c T ns k [76,116,116,112,116] ⟨k0,false,a0,D0⟩=(.mk k (u0:Nat) (0:Nat) 0 [u1,u2],(Ad c ⟨k3,true,a3,D3⟩ 2).2):=by simp only[Ai,As,Au,Aw,Bt,Lk,Az,Ar,q_kl,q_km,e0,e1,e2];rfl
   rw[eR];rw[Bn];exact N3
  cases b4;rotate_left
  ·have eR:Ai c T ns k [76,116,116,112,116] ⟨k0,false,a0,D0⟩=(.mk k (u0:Nat) (0:Nat) 0 [u1,u2,u3],(Ad c ⟨k4,true,a4,D4⟩ 2).2):=by simp only[Ai,As,Au,Aw,Bt,Lk,Az,Ar,q_kl,q_km,e0,e1,e2,e3];rfl
   rw[eR];rw[Bn];exact N4
  have eR:Ai c T ns k [76,116,116,112,116] ⟨k0,false,a0,D0⟩=(.mk k (u0:Nat) (0:Nat) 0 [u1,u2,u3,u4],(Ad c ⟨k5,b5,a5,D5⟩ 2).2):=by simp only[Ai,As,Au,Aw,Bt,Lk,Az,Ar,q_kl,q_km,e0,e1,e2,e3,e4];rfl
  rw[eR];rw[Bn];exact N5
 refine Ib (r:=.agg true (tvn (Ai c T ns k [76,116,116,112,116] ⟨k0,false,a0,D0⟩).1)) ?_ (Jd _);have Mk:5<=140737488355328:=by decide
 refine Bq mixed Tryz.func190 tr190 ?_;unfold rdS at c0 c1 c2 c3 c4 |-;simp only[go_sem,seval,Gg];refine Dv 6 (Ao ?_);simp only[go_sem,seval,v76,v112,v116,wq7,wq8,Al,z1,z2,z3,z4];refine Ac c0 ?_;simp only[go_sem,seval,v76,v112,v116,wq7,wq8,Al,z1,z2,z3,z4];cases b1;rotate_left
 ·refine Ao ?_;have ce:=Cs (nm:=nmG ns) (s:=⟨k1,true,a1,D0⟩) (G:=G++D0) hc 2;have eR:Ai c T ns k [76,116,116,112,116] ⟨k0,false,a0,D0⟩=(.mk k (u0:Nat) (0:Nat) 0 [],(Ad c ⟨k1,true,a1,D0⟩ 2).2):=by simp only[Ai,As,Au,Aw,Bt,Lk,Az,Ar,q_kl,q_km,e0];rfl
  rw[eR,Bn,Ip];unfold rdS at ce;simp only[go_sem,seval,v76,v112,v116,wq7,wq8,Al,z1,z2,z3,z4];refine Ac ce ?_;simp only[go_sem,seval,v76,v112,v116,wq7,wq8,Al,z1,z2,z3,z4,q_h,q_i]
 refine Ao ?_;simp only[go_sem,seval,v76,v112,v116,wq7,wq8,Al,z1,z2,z3,z4];refine Ac c1 ?_;simp only[go_sem,seval,v76,v112,v116,wq7,wq8,Al,z1,z2,z3,z4];cases b2;rotate_left
 ·refine Ao ?_;have ce:=Cs (nm:=nmG ns) (s:=⟨k2,true,a2,D2⟩) (G:=G++D2) hc 2;have eR:Ai c T ns k [76,116,116,112,116] ⟨k0,false,a0,D0⟩=(.mk k (u0:Nat) (0:Nat) 0 [u1],(Ad c ⟨k2,true,a2,D2⟩ 2).2):=by simp only[Ai,As,Au,Aw,Bt,Lk,Az,Ar,q_kl,q_km,e0,e1];rfl
  rw[eR,Bn,Eo];unfold rdS at ce;simp only[go_sem,seval,v76,v112,v116,wq7,wq8,Al,z1,z2,z3,z4];refine Ac ce ?_;simp only[go_sem,seval,v76,v112,v116,wq7,wq8,Al,z1,z2,z3,z4,q_h,q_i]
 refine Ao ?_;simp only[go_sem,seval,v76,v112,v116,wq7,wq8,Al,z1,z2,z3,z4];refine Ac c2 ?_;simp only[go_sem,seval,v76,v112,v116,wq7,wq8,Al,z1,z2,z3,z4];cases b3;rotate_left
 ·refine Ao ?_;have ce:=Cs (nm:=nmG ns) (s:=⟨k3,true,a3,D3⟩) (G:=G++D3) hc 2;have eR:Ai c T ns k [76,116,116,112,116] ⟨k0,false,a0,D0⟩=(.mk k (u0:Nat) (0:Nat) 0 [u1,u2],(Ad c ⟨k3,true,a3,D3⟩ 2).2):=by simp only[Ai,As,Au,Aw,Bt,Lk,Az,Ar,q_kl,q_km,e0,e1,e2];rfl
  rw[eR,Bn,Eo];unfold rdS at ce;simp only[go_sem,seval,v76,v112,v116,wq7,wq8,Al,z1,z2,z3,z4];refine Ac ce ?_;simp only[go_sem,seval,v76,v112,v116,wq7,wq8,Al,z1,z2,z3,z4,q_h,q_i]
 refine Ao ?_;simp only[go_sem,seval,v76,v112,v116,wq7,wq8,Al,z1,z2,z3,z4];refine Ac c3 ?_;simp only[go_sem,seval,v76,v112,v116,wq7,wq8,Al,z1,z2,z3,z4];cases b4;rotate_left
 ·refine Ao ?_;have ce:=Cs (nm:=nmG ns) (s:=⟨k4,true,a4,D4⟩) (G:=G++D4) hc 2;have eR:Ai c T ns k [76,116,116,112,116] ⟨k0,false,a0,D0⟩=(.mk k (u0:Nat) (0:Nat) 0 [u1,u2,u3],(Ad c ⟨k4,true,a4,D4⟩ 2).2):=by simp only[Ai,As,Au,Aw,Bt,Lk,Az,Ar,q_kl,q_km,e0,e1,e2,e3];rfl
  rw[eR,Bn,Eo];unfold rdS at ce;simp only[go_sem,seval,v76,v112,v116,wq7,wq8,Al,z1,z2,z3,z4];refine Ac ce ?_;simp only[go_sem,seval,v76,v112,v116,wq7,wq8,Al,z1,z2,z3,z4,q_h,q_i]
 refine Ao ?_;simp only[go_sem,seval,v76,v112,v116,wq7,wq8,Al,z1,z2,z3,z4];refine Ac c4 ?_;simp only[go_sem,seval,v76,v112,v116,wq7,wq8,Al,z1,z2,z3,z4];refine Ao ?_;have ce:=Cs (nm:=nmG ns) (s:=⟨k5,b5,a5,D5⟩) (G:=G++D5) hc 2;have eR:Ai c T ns k [76,116,116,112,116] ⟨k0,false,a0,D0⟩=(.mk k (u0:Nat) (0:Nat) 0 [u1,u2,u3,u4],(Ad c ⟨k5,b5,a5,D5⟩ 2).2):=by simp only[Ai,As,Au,Aw,Bt,Lk,Az,Ar,q_kl,q_km,e0,e1,e2,e3,e4];rfl
 rw[eR,Bn,Eo];unfold rdS at ce;simp only[go_sem,seval,v76,v112,v116,wq7,wq8,Al,z1,z2,z3,z4];refine Ac ce ?_;simp only[go_sem,seval,v76,v112,v116,wq7,wq8,Al,z1,z2,z3,z4,q_h,q_i]
def Aev(hc:Dc c)(hT:TCG c T f)(Bk:ns.length+3*f+2<100000000000)(hk:12<k/\k≠23)(hb:s.bad=false)(hN:NGr s.D)(hG:NGr G)(hs:c.L.length<s.k+f):LCG c T ns k [120,116,98] s G:=by
 obtain⟨k0,b0,a0,D0⟩:=s;simp only at hs hN hb;subst hb;have Ar:ofR k=2:=by unfold ofR;rw[if_neg (by omega)]
 have Gg:¬(k:Int)<=12:=by omega
 have Bx:k≠23:=hk.2;have Al:((k:Int)==23)=false:=by rw[beq_eq_false_iff_ne];omega
 have c0:=Cs (nm:=nmG ns) (s:=⟨k0,false,a0,D0⟩) (G:=G++D0) hc 3;have d0:=(Bn (c:=c) (s:=⟨k0,false,a0,D0⟩) 3).symm;have m0:=Ce (c:=c) (s:=⟨k0,false,a0,D0⟩) 3;generalize e0:Ad c ⟨k0,false,a0,D0⟩ 3=q at c0 d0 m0;obtain⟨u0,k1,b1,a1,E1⟩:=q;simp only at c0 d0 m0;subst d0;have t1:=hT ns 2 ⟨k1,false,a1,D0⟩ G (by first|omega|(simp only;omega)) (by first|omega|(simp at Bk |-;omega)) (by decide) hN hG;generalize e1:T ns 2 ⟨k1,false,a1,D0⟩=q at t1;obtain⟨u1,k2,b2,a2,D2⟩:=q;obtain⟨c1,m1,N2⟩:=t1;simp only at c1 m1 N2;have z1:=Br u1;have t2:=hT (u0::ns) 2 ⟨k2,false,a2,D2⟩ G (by first|omega|(simp only;omega)) (by first|omega|(simp at Bk |-;omega)) (by decide) N2 hG;generalize e2:T (u0::ns) 2 ⟨k2,false,a2,D2⟩=q at t2;obtain⟨u2,k3,b3,a3,D3⟩:=q;obtain⟨c2,m2,N3⟩:=t2;simp only at c2 m2 N3;have z2:=Br u2;refine⟨?_,?_,?_⟩;rotate_left
 ·cases b1;rotate_left
  ·have eR:Ai c T ns k [120,116,98] ⟨k0,false,a0,D0⟩=(.mk k (0:Nat) (0:Nat) 0 [],(Ad c ⟨k1,true,a1,D0⟩ 2).2):=by simp only[Ai,As,Au,Aw,Cc,Az,Cd,Ar,q_kl,q_km,e0];rfl
   rw[eR];refine q_kn ?_ (Ce 2);first|omega|(simp only;omega)
  cases b2;rotate_left
  ·have eR:Ai c T ns k [120,116,98] ⟨k0,false,a0,D0⟩=(.mk k (0:Nat) (0:Nat) 0 [u1],(Ad c ⟨k2,true,a2,D2⟩ 2).2):=by simp only[Ai,As,Au,Aw,Cc,Az,Cd,Ar,q_kl,q_km,e0,e1];rfl
   rw[eR];refine q_kn ?_ (Ce 2);first|omega|(simp only;omega)
  have eR:Ai c T ns k [120,116,98] ⟨k0,false,a0,D0⟩=(.mk k (0:Nat) (0:Nat) 0 [u1,u2],(Ad c ⟨k3,b3,a3,D3⟩ 2).2):=by simp only[Ai,As,Au,Aw,Cc,Az,Cd,Ar,q_kl,q_km,e0,e1,e2];rfl
  rw[eR];refine q_kn ?_ (Ce 2);first|omega|(simp only;omega)
 ·cases b1;rotate_left
  ·have eR:Ai c T ns k [120,116,98] ⟨k0,false,a0,D0⟩=(.mk k (0:Nat) (0:Nat) 0 [],(Ad c ⟨k1,true,a1,D0⟩ 2).2):=by simp only[Ai,As,Au,Aw,Cc,Az,Cd,Ar,q_kl,q_km,e0];rfl
   rw[eR];rw[Bn];exact hN
  cases b2;rotate_left
  ·have eR:Ai c T ns k [120,116,98] ⟨k0,false,a0,D0⟩=(.mk k (0:Nat) (0:Nat) 0 [u1],(Ad c ⟨k2,true,a2,D2⟩ 2).2):=by simp only[Ai,As,Au,Aw,Cc,Az,Cd,Ar,q_kl,q_km,e0,e1];rfl
   rw[eR];rw[Bn];exact N2
  have eR:Ai c T ns k [120,116,98] ⟨k0,false,a0,D0⟩=(.mk k (0:Nat) (0:Nat) 0 [u1,u2],(Ad c ⟨k3,b3,a3,D3⟩ 2).2):=by simp only[Ai,As,Au,Aw,Cc,Az,Cd,Ar,q_kl,q_km,e0,e1,e2];rfl
  rw[eR];rw[Bn];exact N3
 refine Ib (r:=.agg true (tvn (Ai c T ns k [120,116,98] ⟨k0,false,a0,D0⟩).1)) ?_ (Jd _);have Mk:3<=140737488355328:=by decide
 have Bd:(ns.reverse.map wdG).length=ns.length:=by simp
 have Bb:ns.length*16<=140737488355328:=by omega
 have Bc:ns.length<=140737488355328:=by omega
 have Be:(ns.length+1)*16<=140737488355328:=by omega
 have Bf:ns.length<=140737488355327:=by omega
 rw[show nmG (u0::ns)=.dsl 1 (ns.reverse.map wdG++[[SV.str (bs u0)]]) by simp[nmG,wdG]] at c2;rw[show nmG ns=.dsl 1 (ns.reverse.map wdG) from rfl] at *
 generalize ns.reverse.map wdG=R at *
 have Av:List.take (ns.length+1) (R++[[SV.str (bs u0)]])=R++[[SV.str (bs u0)]]:=q_js (by simp;omega);refine Bq mixed Tryz.func190 tr190 ?_;unfold rdS at c0 c1 c2 |-;simp only[go_sem,seval,Gg];refine Dv 4 (Ao ?_);simp only[go_sem,seval,v98,v116,v120,wq7,wq8,Al,z1,z2,Bd,Bb,Bc,Be,Bf,Av];refine Ac c0 ?_;simp only[go_sem,seval,v98,v116,v120,wq7,wq8,Al,z1,z2,Bd,Bb,Bc,Be,Bf,Av];cases b1;rotate_left
 ·refine Ao ?_;have ce:=Cs (nm:=.dsl 1 R) (s:=⟨k1,true,a1,D0⟩) (G:=G++D0) hc 2;have eR:Ai c T ns k [120,116,98] ⟨k0,false,a0,D0⟩=(.mk k (0:Nat) (0:Nat) 0 [],(Ad c ⟨k1,true,a1,D0⟩ 2).2):=by simp only[Ai,As,Au,Aw,Cc,Az,Cd,Ar,q_kl,q_km,e0];rfl
  rw[eR,Bn,Ip];unfold rdS at ce;simp only[go_sem,seval,v98,v116,v120,wq7,wq8,Al,z1,z2,Bd,Bb,Bc,Be,Bf,Av];refine Ac ce ?_;simp only[go_sem,seval,v98,v116,v120,wq7,wq8,Al,z1,z2,Bd,Bb,Bc,Be,Bf,Av,q_h,q_i]
 refine Ao ?_;simp only[go_sem,seval,v98,v116,v120,wq7,wq8,Al,z1,z2,Bd,Bb,Bc,Be,Bf,Av];refine Ac c1 ?_;simp only[go_sem,seval,v98,v116,v120,wq7,wq8,Al,z1,z2,Bd,Bb,Bc,Be,Bf,Av];cases b2;rotate_left
 ·refine Ao ?_;have ce:=Cs (nm:=.dsl 1 R) (s:=⟨k2,true,a2,D2⟩) (G:=G++D2) hc 2;have eR:Ai c T ns k [120,116,98] ⟨k0,false,a0,D0⟩=(.mk k (0:Nat) (0:Nat) 0 [u1],(Ad c ⟨k2,true,a2,D2⟩ 2).2):=by simp only[Ai,As,Au,Aw,Cc,Az,Cd,Ar,q_kl,q_km,e0,e1];rfl
  rw[eR,Bn,Eo];unfold rdS at ce;simp only[go_sem,seval,v98,v116,v120,wq7,wq8,Al,z1,z2,Bd,Bb,Bc,Be,Bf,Av];refine Ac ce ?_;simp only[go_sem,seval,v98,v116,v120,wq7,wq8,Al,z1,z2,Bd,Bb,Bc,Be,Bf,Av,q_h,q_i]
 refine Ao ?_;simp only[go_sem,seval,v98,v116,v120,wq7,wq8,Al,z1,z2,Bd,Bb,Bc,Be,Bf,Av];refine Ac c2 ?_;simp only[go_sem,seval,v98,v116,v120,wq7,wq8,Al,z1,z2,Bd,Bb,Bc,Be,Bf,Av];refine Ao ?_;have ce:=Cs (nm:=.dsl 1 R) (s:=⟨k3,b3,a3,D3⟩) (G:=G++D3) hc 2;have eR:Ai c T ns k [120,116,98] ⟨k0,false,a0,D0⟩=(.mk k (0:Nat) (0:Nat) 0 [u1,u2],(Ad c ⟨k3,b3,a3,D3⟩ 2).2):=by simp only[Ai,As,Au,Aw,Cc,Az,Cd,Ar,q_kl,q_km,e0,e1,e2];rfl
 rw[eR,Bn,Eo];unfold rdS at ce;simp only[go_sem,seval,v98,v116,v120,wq7,wq8,Al,z1,z2,Bd,Bb,Bc,Be,Bf,Av];refine Ac ce ?_;simp only[go_sem,seval,v98,v116,v120,wq7,wq8,Al,z1,z2,Bd,Bb,Bc,Be,Bf,Av,q_h,q_i]
end
end Go.Proofs.YtgfehkhcmnfpaaaGreatDoor.Abs
