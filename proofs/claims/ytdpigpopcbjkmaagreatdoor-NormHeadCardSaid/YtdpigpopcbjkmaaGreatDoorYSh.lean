import Derived.Test.YtdpigpopcbjkmaaGreatDoorYVa
import Derived.Test.YtdpigpopcbjkmaaGreatDoorYEv
import Derived.Test.YtdpigpopcbjkmaaGreatDoorYTs
import Derived.Test.YtdpigpopcbjkmaaGreatDoorYPt
import Derived.Test.YtdpigpopcbjkmaaGreatDoorYRw
import Derived.Test.YtdpigpopcbjkmaaGreatDoorYMk
set_option linter.unusedSimpArgs false
set_option linter.unusedVariables false
set_option maxRecDepth 20000
set_option maxHeartbeats 4000000
namespace Go.Proofs.YtdpigpopcbjkmaaGreatDoor.Abs
open Go Go.RowKit Go.Proofs.YtdpigpopcbjkmaaGreatDoor
section
variable{B:BT}{C:Nat}{σ σ':Nat->Tm}
theorem Afz{t:Tm}(h:Sf C t)(h2:t.k≠2)(v:Nat->Nat->Tm)(b:Nat):(trT v FF b t).k=t.k/\(trT v FF b t).i=t.i/\(trT v FF b t).j=t.j/\(trT v FF b t).n=t.n/\(trT v FF b t).kids=trL v FF b t.k 0 t.kids:=by
 have h0:=sf_k h;cases t with
 |mk k i j n l=>rw[Ey (show k≠2 from h2) (show k≠0 from h0)];exact⟨rfl,rfl,rfl,rfl,rfl⟩
theorem Qu{t:Tm}(h:Sf C t)(h2:t.k≠2)(v:Nat->Nat->Tm)(b:Nat){p:Nat}(hp:p<t.kids.length):Am (trT v FF b t) p=trT v FF (b+bnd t.k p) (Am t p):=by
 unfold Am;rw[(Afz h h2 v b).2.2.2.2,List.getD_eq_getElem?_getD,Ep,List.getD_eq_getElem?_getD,q_f hp,Nat.zero_add];rfl
theorem Abv{t:Tm}(h:Sf C t){c:Int}(hk:t.k=c)(hc:c≠2)(v:Nat->Nat->Tm)(b:Nat):(trT v FF b t).k=c:=by rw[(Afz h (by rw[hk];exact hc) v b).1,hk]
theorem Qq{t:Tm}(h:Sf C t){p:Nat}{c:Int}(hk:t.k=c)(hp:p<t.kids.length){m:Nat}(hb:bnd c p=m):Sf (C+m) (Am t p):=by
 have:=Jd h hp
 rwa [hk,hb] at this
theorem Am5(hB:Gv B){t u:Tm}(h:Bi B t=some u)(ht:Sf C t)(σ:Nat->Tm)(b:Nat):Bi B (trT (sv σ) FF b t)=some (trT (sv σ) FF b u):=by
 have h2:t.k≠2:=fun e=>by rw[Ky (by omega)] at h;cases h
 have hl:=Hp ht h2;obtain⟨e1,e2,e3,e4,e5⟩:=Afz ht h2 (sv σ) b
 by_cases Fa:t.k=15
 ·rw[Se Fa] at h;rw[Se (e1.trans Fa)];rw[Fa,kids15] at hl;split at h
  ·rename_i c;cases h;have s0:=Qq (p:=0) (m:=0) ht Fa (by omega) (by decide);have De:=Hp s0 (by omega);rw[c,kids14] at De;rw[Qu ht h2 (sv σ) b (p:=0) (by omega),Qu ht h2 (sv σ) b (p:=1) (by omega),Fa,show bnd 15 0=0 by decide,show bnd 15 1=0 by decide,Nat.add_zero,if_pos (Abv s0 c (by decide) _ _),Qu s0 (by omega) (sv σ) b (p:=1) (by omega),c,show bnd 14 1=1 by decide,Bfh]
  ·cases h
 by_cases Gb:t.k=18
 ·rw[Sg Gb] at h;rw[Sg (e1.trans Gb)];rw[Gb,kids18] at hl;split at h
  ·rename_i c;cases h;have s0:=Qq (p:=0) (m:=0) ht Gb (by omega) (by decide);have De:=Hp s0 (by omega);rw[c,kids17] at De;rw[Qu ht h2 (sv σ) b (p:=0) (by omega),Gb,show bnd 18 0=0 by decide,Nat.add_zero,if_pos (Abv s0 c (by decide) _ _),Qu s0 (by omega) (sv σ) b (p:=2) (by omega),c,show bnd 17 2=0 by decide,Nat.add_zero]
  ·cases h
 by_cases Gc:t.k=19
 ·rw[Sh Gc] at h;rw[Sh (e1.trans Gc)];rw[Gc,kids19] at hl;split at h
  ·rename_i c;cases h;have s0:=Qq (p:=0) (m:=0) ht Gc (by omega) (by decide);have De:=Hp s0 (by omega);rw[c,kids17] at De;rw[Qu ht h2 (sv σ) b (p:=0) (by omega),Gc,show bnd 19 0=0 by decide,Nat.add_zero,if_pos (Abv s0 c (by decide) _ _),Qu s0 (by omega) (sv σ) b (p:=3) (by omega),c,show bnd 17 3=0 by decide,Nat.add_zero]
  ·cases h
 by_cases Du:t.k=22
 ·rw[Si Du] at h;rw[Si (e1.trans Du)];rw[Du,kids22] at hl;split at h
  ·rename_i c;cases h;have s0:=Qq (p:=5) (m:=0) ht Du (by omega) (by decide);rw[Qu ht h2 (sv σ) b (p:=5) (by omega),Qu ht h2 (sv σ) b (p:=3) (by omega),Du,show bnd 22 5=0 by decide,show bnd 22 3=0 by decide,Nat.add_zero,if_pos (Abv s0 c (by decide) _ _)]
  ·cases h
 by_cases Cc:t.k=23
 ·rw[Sj Cc] at h;rw[Sj (e1.trans Cc),e2,e3,e4];cases hb:B t.n t.i t.j with
  |none=>rw[hb] at h;cases h
  |some q=>
   rw[hb,Option.map_some,q_b] at h;subst h;rw[Cc] at hl;rw[Option.map_some,Bfg _ _ _ (by rw[List.length_reverse,show t.kids.length=(Bf 23 t.n).toNat by omega];exact hB _ _ _ _ hb),e5,Cc];congr 3;rw[List.map_reverse];congr 1;apply List.ext_getElem?;intro p;rw[Ep,List.getElem?_map,Nat.zero_add,bnd23,Nat.add_zero]
 ·rw[Ky (by omega)] at h;cases h
inductive Par(B:BT):Tm->Tm->Prop
 |var (i:Nat):Par B (vT i) (vT i)
 |nd {k i j n:Int} {l l':List Tm} (h2:k≠2) (h0:k≠0) (hl:l'.length=l.length) (hk:∀(p:Nat) t t',l[p]?=some t->l'[p]?=some t'->Par B t t'):Par B (.mk k i j n l) (.mk k i j n l')
 |st {k i j n:Int} {l l':List Tm} {u:Tm} (h2:k≠2) (h0:k≠0) (hl:l'.length=l.length) (hk:∀(p:Nat) t t',l[p]?=some t->l'[p]?=some t'->Par B t t') (hr:(Bi B (.mk k i j n l)).isSome=true) (hu:Bi B (.mk k i j n l')=some u):Par B (.mk k i j n l) u
theorem Bav{t:Tm}(h:Sf C t):Par B t t:=by
 induction h with
 |var=>exact .var _
 |nd i j n h2 h0 _ _ _ ih=>exact .nd h2 h0 rfl (fun p t t' h h'=>by rw[h,q_b] at h';subst h';exact ih p t h)
theorem Abr{k i j n:Int}{l l':List Tm}(h:Sf C (.mk k i j n l))(h2:k≠2)(hl:l'.length=l.length)(hk:∀(p:Nat) t,l'[p]?=some t->Sf (C+bnd k p) t):Sf C (.mk k i j n l'):=by
 obtain⟨h0,hf,hn⟩:=h.node h2;exact .nd i j n h2 h0 hf (by rw[hl];exact hn) hk
theorem s7{l l':List Tm}(hl:l'.length=l.length){p:Nat}{t:Tm}(h:l'[p]?=some t):∃s,l[p]?=some s:=by
 have:=Dn h;exact⟨_,q_f (by omega)⟩
theorem Afd(hB:Gv B){t u:Tm}(h:Par B t u):∀{C:Nat},Sf C t->Sf C u:=by
 induction h with
 |var i=>intro C h;exact h
 |nd h2 h0 hl hk ih=>
  intro C h;exact Abr h h2 hl (fun p t ht=>by obtain⟨s,hs⟩:=s7 hl ht;exact ih p s t hs ht (h.kid hs))
 |st h2 h0 hl hk hr hu ih=>
  intro C h;exact Anx hB hu (Abr h h2 hl (fun p t ht=>by obtain⟨s,hs⟩:=s7 hl ht;exact ih p s t hs ht (h.kid hs)))
def ParL(B:BT)(l l':List Tm):Prop:=l'.length=l.length/\∀(p:Nat) t t',l[p]?=some t->l'[p]?=some t'->Par B t t'
theorem ParL.kid{k i j n:Int}{l l':List Tm}(h:ParL B l l'){p:Nat}(hp:p<l.length):Par B (Am (.mk k i j n l) p) (Am (.mk k i j n l') p):=by
 have hp':p<l'.length:=by rw[h.1];exact hp
 unfold Am;simp only[Tm.kids,List.getD_eq_getElem?_getD];rw[q_f hp,q_f hp'];exact h.2 p _ _ (q_f hp) (q_f hp')
theorem Am1{t u:Tm}(h:Par B t u)(hv:isV t.k):∃l',u=.mk t.k t.i t.j t.n l'/\ParL B t.kids l':=by
 unfold isV at hv;cases h with
 |var i=>exact absurd (show (2:Int)=14\/(2:Int)=17\/(2:Int)=21 from hv) (by decide)
 |nd h2 h0 hl hk=>exact⟨_,rfl,hl,hk⟩
 |st h2 h0 hl hk hr hu=>
  rw[Ky (by simp only[Tm.k] at hv |-;omega)] at hr;cases hr
theorem Aba{t u:Tm}(h:Par B t u){c:Int}(hk:t.k=c)(hc:c=14\/c=17\/c=21):u.k=c:=by
 obtain⟨l',rfl,_⟩:=Am1 h (by unfold isV;omega);exact hk
theorem Aff{t u:Tm}(h:Par B t u)(hv:isV t.k){p:Nat}(hp:p<t.kids.length):Par B (Am t p) (Am u p):=by
 obtain⟨l',rfl,hl⟩:=Am1 h hv;cases t with
 |mk k i j n l=>exact hl.kid hp
theorem Am4{k i j n:Int}{l l':List Tm}(h:Sf C (.mk k i j n l))(hp:ParL B l l')(hr:(Bi B (.mk k i j n l)).isSome=true):(Bi B (.mk k i j n l')).isSome=true:=by
 have h2:k≠2:=fun e=>by rw[Ky (by show k≠15/\_;simp only[Tm.k];omega)] at hr;cases hr
 have hl:=(h.node h2).2.2
 by_cases Fa:k=15
 ·subst Fa;rw[Se rfl] at hr |-;rw[kids15] at hl;split at hr
  ·rename_i c;rw[if_pos (Aba (hp.kid (p:=0) (by omega)) c (by omega))];rfl
  ·cases hr
 by_cases Gb:k=18
 ·subst Gb;rw[Sg rfl] at hr |-;rw[kids18] at hl;split at hr
  ·rename_i c;rw[if_pos (Aba (hp.kid (p:=0) (by omega)) c (by omega))];rfl
  ·cases hr
 by_cases Gc:k=19
 ·subst Gc;rw[Sh rfl] at hr |-;rw[kids19] at hl;split at hr
  ·rename_i c;rw[if_pos (Aba (hp.kid (p:=0) (by omega)) c (by omega))];rfl
  ·cases hr
 by_cases Du:k=22
 ·subst Du;rw[Si rfl] at hr |-;rw[kids22] at hl;split at hr
  ·rename_i c;rw[if_pos (Aba (hp.kid (p:=5) (by omega)) c (by omega))];rfl
  ·cases hr
 by_cases Cc:k=23
 ·subst Cc;rw[Sj rfl] at hr |-;simp only[Tm.n,Tm.i,Tm.j] at hr |-;cases hb:B n i j with
  |none=>rw[hb] at hr;cases hr
  |some q=>rfl
 ·rw[Ky (by simp only[Tm.k];omega)] at hr;cases hr
theorem Afe(hB:Gv B)(hV:∀b i,Par B (sv σ b i) (sv σ' b i)){t t':Tm}(h:Par B t t'):∀{C:Nat},Sf C t->∀b,Par B (trT (sv σ) FF b t) (trT (sv σ') FF b t'):=by
 induction h with
 |var i=>intro C _ b;rw[Cu,Cu];exact hV b i
 |nd h2 h0 hl hk ih=>
  intro C h b;rw[Ey h2 h0,Ey h2 h0];refine .nd h2 h0 (by rw[Kh,Kh];exact hl) (fun p s s' hs Ii=>?_);rw[Ep] at hs Ii;obtain⟨a,ha,rfl⟩:=Option.map_eq_some_iff.1 hs;obtain⟨a',Ti,rfl⟩:=Option.map_eq_some_iff.1 Ii;exact ih p a a' ha Ti (h.kid ha) _
 |@st k i j n l l' u h2 h0 hl hk hr hu ih=>
  intro C h b;have Ii:Sf C (.mk k i j n l'):=Abr h h2 hl (fun p t ht=>by obtain⟨s,hs⟩:=s7 hl ht;exact Afd hB (hk p s t hs ht) (h.kid hs));obtain⟨w,hw⟩:=Option.isSome_iff_exists.1 hr;have q1:=Am5 hB hw h σ b;have q2:=Am5 hB hu Ii σ' b;rw[Ey h2 h0] at q1 q2 |-;refine .st h2 h0 (by rw[Kh,Kh];exact hl) (fun p s s' hs Ii=>?_) (by rw[q1];rfl) q2;rw[Ep] at hs Ii;obtain⟨a,ha,rfl⟩:=Option.map_eq_some_iff.1 hs;obtain⟨a',Ti,rfl⟩:=Option.map_eq_some_iff.1 Ii;exact ih p a a' ha Ti (h.kid ha) _
theorem Bas(hB:Gv B){t t':Tm}(h:Par B t t')(hs:Sf C t)(b:Nat):Par B (Eo b t) (Eo b t'):=by
 rw[Al6,Al6];refine Afe hB (fun c i=>?_) h hs 0;rw[An8];unfold lfv;split<;>exact .var _
theorem Am0(hB:Gv B)(h:∀i,Par B (σ i) (σ' i)/\∃C,Sf C (σ i))(b i:Nat):Par B (sv σ b i) (sv σ' b i):=by
 unfold sv;split
 ·exact .var _
 ·obtain⟨h1,C,h2⟩:=h (i-b);exact Bas hB h1 h2 b
theorem Bau(hB:Gv B){C':Nat}{u u' a a':Tm}(hu:Par B u u')(su:Sf C u)(ha:Par B a a')(sa:Sf C' a):Par B (Im u a) (Im u' a'):=by
 rw[Anf,Anf];refine Afe hB (Am0 hB (fun i=>?_)) ha sa 0;cases i with
 |zero=>exact⟨hu,C,su⟩
 |succ i=>exact⟨.var i,i+1,.var (by omega)⟩
theorem Bar(hB:Gv B){C':Nat}{l l':List Tm}(h:ParL B l l')(hs:∀t∈l,Sf C t){b:Tm}(sb:Sf C' b):Par B (Ht l b) (Ht l' b):=by
 rw[Ag0,Ag0];refine Afe hB (Am0 hB (fun i=>?_)) (Bav sb) sb 0;unfold Agz;rw[List.getD_eq_getElem?_getD,List.getD_eq_getElem?_getD];rcases Nat.lt_or_ge i l.length with hi|hi
 ·rw[q_f hi,q_f (show i<l'.length by rw[h.1];exact hi)];exact⟨h.2 i _ _ (q_f hi) (q_f _),C,hs _ (List.getElem_mem hi)⟩
 ·rw[List.getElem?_eq_none hi,List.getElem?_eq_none (show l'.length<=i by rw[h.1];exact hi)];exact⟨.var 0,1,.var (by omega)⟩
end
section
variable{B:BT}{C:Nat}
theorem ParL.rev{l l':List Tm}(h:ParL B l l'):ParL B l.reverse l'.reverse:=by
 refine⟨by simp[h.1],fun p t t' ht Ln=>?_⟩;have hp:=Dn ht;rw[List.length_reverse] at hp;rw[List.getElem?_reverse hp] at ht;rw[List.getElem?_reverse (by rw[h.1];exact hp),h.1] at Ln;exact h.2 _ _ _ ht Ln
theorem Bat(hB:Gv B){k i j n:Int}{l l':List Tm}{u u':Tm}(h:Sf C (.mk k i j n l))(hp:ParL B l l')(hu:Bi B (.mk k i j n l)=some u)(Dx:Bi B (.mk k i j n l')=some u'):Par B u u':=by
 have h2:k≠2:=fun e=>by rw[Ky (by simp only[Tm.k];omega)] at hu;cases hu
 have hl:=(h.node h2).2.2
 by_cases Fa:k=15
 ·subst Fa;rw[Se rfl] at hu Dx;rw[kids15] at hl;split at hu
  ·rename_i c;split at Dx
   ·cases hu;cases Dx;have s0:=Qq (c:=15) (p:=0) (m:=0) h rfl (by show 0<l.length;omega) (by decide);have s1:=Qq (c:=15) (p:=1) (m:=0) h rfl (by show 1<l.length;omega) (by decide);have De:=Hp s0 (by omega);rw[c,kids14] at De;exact Bau hB (hp.kid (by omega)) s1 (Aff (hp.kid (by omega)) (by unfold isV;omega) (by omega)) (Qq (p:=1) (m:=1) s0 c (by omega) (by decide))
   ·cases Dx
  ·cases hu
 by_cases Gb:k=18
 ·subst Gb;rw[Sg rfl] at hu Dx;rw[kids18] at hl;split at hu
  ·rename_i c;split at Dx
   ·cases hu;cases Dx;have s0:=Qq (c:=18) (p:=0) (m:=0) h rfl (by show 0<l.length;omega) (by decide);have De:=Hp s0 (by omega);rw[c,kids17] at De;exact Aff (hp.kid (by omega)) (by unfold isV;omega) (by omega)
   ·cases Dx
  ·cases hu
 by_cases Gc:k=19
 ·subst Gc;rw[Sh rfl] at hu Dx;rw[kids19] at hl;split at hu
  ·rename_i c;split at Dx
   ·cases hu;cases Dx;have s0:=Qq (c:=19) (p:=0) (m:=0) h rfl (by show 0<l.length;omega) (by decide);have De:=Hp s0 (by omega);rw[c,kids17] at De;exact Aff (hp.kid (by omega)) (by unfold isV;omega) (by omega)
   ·cases Dx
  ·cases hu
 by_cases Du:k=22
 ·subst Du;rw[Si rfl] at hu Dx;rw[kids22] at hl;split at hu
  ·split at Dx
   ·cases hu;cases Dx;exact hp.kid (by omega)
   ·cases Dx
  ·cases hu
 by_cases Cc:k=23
 ·subst Cc;rw[Sj rfl] at hu Dx;simp only[Tm.n,Tm.i,Tm.j,Tm.kids] at hu Dx;cases hb:B n i j with
  |none=>rw[hb] at hu;cases hu
  |some q=>
   rw[hb,Option.map_some,q_b] at hu Dx;subst hu Dx;refine Bar (C:=C) hB hp.rev (fun t ht=>?_) (hB _ _ _ _ hb);obtain⟨p,hp'⟩:=List.getElem?_of_mem (List.mem_reverse.1 ht);have:=h.kid hp'
   rwa [bnd23,Nat.add_zero] at this
 ·rw[Ky (by simp only[Tm.k];omega)] at hu;cases hu
mutual
def cd(B:BT):Tm->Tm
 |.mk k i j n l=>if k=2\/k=0 then .mk k i j n l else if (Bi B (.mk k i j n l)).isSome then (Bi B (.mk k i j n (cdL B l))).getD (vT 0) else .mk k i j n (cdL B l)
def cdL(B:BT):List Tm->List Tm
 |[]=>[]
 |t::l=>cd B t::cdL B l
end
theorem Ahg:∀l:List Tm,cdL B l=l.map (cd B):=by
 intro l
 induction l with
 |nil=>rfl
 |cons t l ih=>rw[cdL,ih];rfl
theorem Amz(hB:Gv B){t u:Tm}(h:Par B t u):∀{C:Nat},Sf C t->Par B u (cd B t):=by
 have key:∀{k i j n:Int} {l l':List Tm} {C:Nat},k≠2->k≠0->ParL B l l'->Sf C (.mk k i j n l)->(∀(p:Nat) t t',l[p]?=some t->l'[p]?=some t'->∀{C:Nat},Sf C t->Par B t' (cd B t)) ->
   Sf C (.mk k i j n l')/\ParL B l' (cdL B l)/\((Bi B (.mk k i j n l)).isSome=true->(Bi B (.mk k i j n l')).isSome=true/\Bi B (.mk k i j n (cdL B l))=some (cd B (.mk k i j n l)))/\(¬(Bi B (.mk k i j n l)).isSome=true->cd B (.mk k i j n l)=.mk k i j n (cdL B l)):=by
  intro k i j n l l' C h2 h0 hp h ih;have Ii:Sf C (.mk k i j n l'):=Abr h h2 hp.1 (fun p t ht=>by obtain⟨s,hs⟩:=s7 hp.1 ht;exact Afd hB (hp.2 p s t hs ht) (h.kid hs));have hL:ParL B l' (cdL B l):=by
   refine⟨by rw[Ahg,q_g,hp.1],fun p t' c Ln hc=>?_⟩;rw[Ahg,List.getElem?_map] at hc;obtain⟨s,hs,rfl⟩:=Option.map_eq_some_iff.1 hc;exact ih p s t' hs Ln (h.kid hs)
  refine⟨Ii,hL,fun hr=>?_,fun hr=>?_⟩
  ·have r1:=Am4 h hp hr;have r2:=Am4 Ii hL r1;refine⟨r1,?_⟩;rw[cd,if_neg (by omega),if_pos hr];obtain⟨c,hc⟩:=Option.isSome_iff_exists.1 r2;rw[hc];rfl
  ·rw[cd,if_neg (by omega),if_neg hr]
 induction h with
 |var i=>intro C _;unfold vT;rw[cd,if_pos (.inl rfl)];exact .var i
 |@nd k i j n l l' h2 h0 hl hk ih=>
  intro C h;obtain⟨Ii,hL,q1,q2⟩:=key h2 h0 ⟨hl,hk⟩ h ih
  by_cases hr:(Bi B (.mk k i j n l)).isSome=true
  ·obtain⟨r1,r2⟩:=q1 hr;exact .st h2 h0 hL.1 hL.2 r1 r2
  ·rw[q2 hr];exact .nd h2 h0 hL.1 hL.2
 |@st k i j n l l' u h2 h0 hl hk hr hu ih=>
  intro C h;obtain⟨Ii,hL,q1,q2⟩:=key h2 h0 ⟨hl,hk⟩ h ih;obtain⟨_,r2⟩:=q1 hr;exact Bat hB Ii hL hu r2
inductive Prs(B:BT):Tm->Tm->Prop
 |refl (t:Tm):Prs B t t
 |step {t u w:Tm} (h:Par B t u) (hr:Prs B u w):Prs B t w
theorem Prs.trans{t u w:Tm}(h:Prs B t u)(k:Prs B u w):Prs B t w:=by
 induction h with
 |refl=>exact k
 |step h _ ih=>exact .step h (ih k)
theorem strip(hB:Gv B){t w:Tm}(h:Prs B t w):∀{u:Tm},Sf C t->Par B t u->∃x,Prs B u x/\Par B w x:=by
 induction h with
 |refl t=>intro u _ h;exact⟨u,.refl u,h⟩
 |step h1 _ ih=>
  intro u hs h;obtain⟨x,k1,k2⟩:=ih (Afd hB h1 hs) (Amz hB h1 hs);exact⟨x,.step (Amz hB h hs) k1,k2⟩
end
open Go Go.RowKit Go.Proofs.YtdpigpopcbjkmaaGreatDoor
section
variable{k i j n:Int}{l:List Tm}(p:Int)(ps:List Int)(hl:0<l.length)(hl2:l.length<=1000)
include hl hl2
end
section
variable{B:BT}
theorem Bax(hB:BodyP B){N N':Nat}{t t':Tm}{o:Bool}(h:PHd B N t N' o t')(ho:o=false):∀{C:Nat},C<=60000000->PT C 4000 t->N<=4000->PT C 4000 t'/\N'<=4000/\((N'=N/\t'=t)\/N<N'):=by
 induction h with
 |stop h=>intro C hC hp hN;exact⟨hp,hN,.inl ⟨rfl,rfl⟩⟩
 |out=>cases ho
 |step h h1 h2 hr ih=>
  intro C hC hp hN;obtain⟨a,_⟩:=An5 hB h hC hp;obtain⟨k1,k2,_⟩:=ih ho hC ⟨a,Afu hB.ok h hp.sf,h2⟩ h1;have:=Abb hr;exact⟨k1,k2,.inr (by omega)⟩
theorem Bbt{x y:Tm ⊕ List Tm}{N N':Nat}{o o':Bool}(h:PNx B x N o N' o' y):N<=N':=by
 induction h with
 |tm h _ ih=>have:=Abb h;omega
 |nil=>exact Nat.le_refl _
 |out=>exact Nat.le_refl _
 |cons _ _ ih1 ih2=>omega
end
def vZ(i:Int):Tm:=.mk 2 i 0 0 []
theorem Bhd(i:Nat):vZ (i:Int)=vT i:=rfl
def unf(d b:Nat)(l:Int):Tm:=vZ ((d:Int)+b-1-l)
def unl(d b:Nat)(t:Tm):Tm:=trT (fun _ i=>vT i) (unf d) b t
theorem Ab5{k:Int}(h2:k≠2)(h0:k≠0)(d b:Nat)(i j n:Int)(l:List Tm):unl d b (.mk k i j n l)=.mk k i j n (trL (fun _ i=>vT i) (unf d) b k 0 l):=Ey h2 h0 b i j n l
theorem Aoz(d b:Nat)(l:Int):unl d b (fT l)=vZ ((d:Int)+b-1-l):=He b l
theorem Bg8(d b i:Nat):unl d b (vT i)=vT i:=Cu b i
theorem Bg7(d o:Nat)(t:Tm):∀b,unl (d+o) b t=unl d (b+o) t:=by
 induction t using Tm.ind with
 |h k i j n l ih=>
  intro b
  by_cases h2:k=2
  ·subst h2;unfold unl;rw[Oc,Oc]
  by_cases h0:k=0
  ·subst h0;unfold unl;rw[Pj,Pj];unfold unf;congr 1;omega
  rw[Ab5 h2 h0,Ab5 h2 h0];congr 1;apply List.ext_getElem?;intro q;rw[Ep,Ep];cases hq:l[q]? with
  |none=>rfl
  |some t=>
   simp only[Option.map_some,q_b];have:=ih t (List.mem_of_getElem? hq) (b+bnd k (0+q));unfold unl at this;rw[this,show b+bnd k (0+q)+o=b+o+bnd k (0+q) by omega]
theorem Bgs{f:Nat->Int->Tm}{B:Nat}{t:Tm}(h:Sf B t):∀b,trT (fun _ i=>vT i) f b t=t:=by
 induction h with
 |var h=>intro b;rw[Cu]
 |@nd B k i j n l h2 h0 hf hl _ ih=>
  intro b;rw[Ey h2 h0];congr 1;apply List.ext_getElem?;intro q;rw[Ep];cases hq:l[q]? with
  |none=>rfl
  |some t=>simp only[Option.map_some];rw[ih q t hq]
theorem Bg6{B:Nat}{t:Tm}(h:Sf B t)(d b:Nat):unl d b (lvB d b t)=t:=by
 have:=Aos (v1:=lvv d) (f1:=fun _ l=>fT l) (v2:=fun _ i=>vT i) (f2:=unf d) (v:=fun _ i=>vT i) (f:=unf d) (fun b i=>?_) (fun b l=>He _ _) t b
 ·exact this.trans (Bgs h b)
 ·unfold lvv
  by_cases c:i<b
  ·rw[if_pos c,Cu]
  ·rw[if_neg c,He];unfold unf;rw[<-Bhd i];congr 1;omega
theorem A3t{B:BT}(hB:Gv B){N' n C:Nat}{t t1 Y:Tm}(hs:Sf C t)(h:PHd B 0 t N' false t1)(hr:HR (plD B) n (lv 0 t) Y)(hn:HN (plD B) Y):unl 0 0 Y=t1/\n=N':=by
 obtain⟨s1,m,e,h1,h2⟩:=Afg (d:=0) hB h rfl hs;obtain⟨a,b⟩:=Rx hr hn h1;obtain⟨c,_⟩:=Rx h1 h2 hr;have e2:n=m:=by omega
 subst e2;rw[Nat.sub_self] at b;cases b;exact⟨Bg6 s1 0 0,by omega⟩
section
variable{G G1 G':GV}{m id:Nat}{u:SV}{e:List Nat}{own deep:Int}
theorem Abi{t:Tm}(h:Ad 58 G [.gp m 0] (.pan u) G1):Ad 66 G [.gp m 0,.agg true (tv t),Aw e,.int .i64 own,.int .i64 deep] (.pan u) G1:=by
 have hz:=Ae t;refine Ap mixed Tryz.func66 tr66 ?_;simp only[go_sem,seval,hz];refine Cn h trivial ?_;simp only[go_sem,seval]
theorem Bds{i j n:Int}{l:List Tm}(h:Ad 58 G [.gp m 0] (.ret (.tup [])) G1)(hi:i<own) :
  Ad 66 G [.gp m 0,.agg true (tv (.mk 2 i j n l)),Aw e,.int .i64 own,.int .i64 deep] (.ret (.agg true (tv (.mk 2 i 0 0 [])))) G1:=by
 have hz:=Ae (.mk 2 i 0 0 []);have h1:=Acw i;rw[Ak 2 i j n l];refine Ap mixed Tryz.func66 tr66 ?_;simp only[go_sem,seval];refine Ac h ?_;simp only[go_sem,seval,decide_eq_true hi];refine Aa h1 ?_;simp only[go_sem,seval,hz]
theorem Bdp{i:Nat}{o:Nat}{j n:Int}{l:List Tm}{out:HOut}(h:Ad 58 G [.gp m 0] (.ret (.tup [])) G1)(hi:o<=i)(hf:fit i)(hg:e[i-o]?=some id)(hd:fit (deep+o))
  (hr:Ad 67 G1 [.gp m 0,.gp id 0,.int .i64 (deep+o)] out G') (ho:(∃t,out=.ret (.agg true (tv t)))\/∃x,out=.pan x) :
  Ad 66 G [.gp m 0,.agg true (tv (.mk 2 i j n l)),Aw e,.int .i64 o,.int .i64 deep] out G':=by
 have hl:=o5 e (i-o) (by unfold fit at *;omega);rw[hg] at hl;have e1:IntKind.i64.wrap ((i:Int)-o)=((i-o:Nat):Int):=by rw[w64 (by unfold fit at *;omega)];omega
 have e2:decide ((i:Int)<(o:Int))=false:=decide_eq_false (by omega);rw[Ak 2 i j n l];refine Ap mixed Tryz.func66 tr66 ?_;simp only[go_sem,seval];refine Ac h ?_;simp only[go_sem,seval,e1,e2];refine Aa hl ?_;simp only[go_sem,seval,w64 hd];rcases ho with⟨t,rfl⟩|⟨x,rfl⟩
 ·have hz:=Ae t;refine Ac hr ?_;simp only[go_sem,seval,hz]
 ·refine Cn hr trivial ?_;simp only[go_sem,seval]
theorem Bdo{i:Nat}{o:Nat}{j n:Int}{l:List Tm}(h:Ad 58 G [.gp m 0] (.ret (.tup [])) G1)(hi:o<=i)(hf:fit i)(hg:e[i-o]?=none)(he:fit ((i:Int)-e.length))(hd:fit ((i:Int)-e.length+deep)) :
  Ad 66 G [.gp m 0,.agg true (tv (.mk 2 i j n l)),Aw e,.int .i64 o,.int .i64 deep] (.ret (.agg true (tv (.mk 2 ((i:Int)-e.length+deep) 0 0 [])))) G1:=by
 have hl:=o5 e (i-o) (by unfold fit at *;omega);rw[hg] at hl;have e1:IntKind.i64.wrap ((i:Int)-o)=((i-o:Nat):Int):=by rw[w64 (by unfold fit at *;omega)];omega
 have e2:decide ((i:Int)<(o:Int))=false:=decide_eq_false (by omega);have h1:=Acw ((i:Int)-e.length+deep);have hz:=Ae (.mk 2 ((i:Int)-e.length+deep) 0 0 []);rw[Ak 2 i j n l];refine Ap mixed Tryz.func66 tr66 ?_;simp only[go_sem,seval];refine Ac h ?_;simp only[go_sem,seval,e1,e2];refine Aa hl ?_;simp only[go_sem,seval];refine Aa (o7 e) ?_;simp only[go_sem,seval,w64 he,w64 hd];refine Aa h1 ?_;simp only[go_sem,seval,hz]
theorem Bdq{k i j n:Int}(h:Ad 58 G [.gp m 0] (.ret (.tup [])) G1)(hk:k≠2) :
  Ad 66 G [.gp m 0,.agg true (tv (.mk k i j n [])),Aw e,.int .i64 own,.int .i64 deep] (.ret (.agg true (tv (.mk k i j n [])))) G1:=by
 refine HContract.weaken (r:=.agg true [.int .i64 k,.int .i64 i,.int .i64 j,.int .i64 n,.nils]) ?_ (Ms _ _ _ _);rw[Ak k i j n []];refine Ap mixed Tryz.func66 tr66 ?_;simp only[go_sem,seval];refine Ac h ?_;simp only[go_sem,seval,Ah hk,q_i]
end
section
variable{G G1 G':GV}{m id:Nat}{u:SV}{deep:Int}{th:Th}{v:Vl}{out:HOut}
theorem Arf(hG:G[id]?=some (thR th))(hb:th.bare=true)(hw:th.w=some v)(h:Ad 45 G [.gp m 0,vlV v,.int .i64 deep] out G')(ho:(∃t,out=.ret (.agg true (tv t)))\/∃x,out=.pan x) :
  Ad 67 G [.gp m 0,.gp id 0,.int .i64 deep] out G':=by
 refine Ap mixed Tryz.func67 tr67 ?_;simp only[go_sem,seval,hG,Zy,Zz,Af3,Af4,hb,hw,Jo];rcases ho with⟨t,rfl⟩|⟨x,rfl⟩
 ·have hz:=Ae t;refine Ac h ?_;simp only[go_sem,seval,hz]
 ·exact Cn h trivial ⟨rfl,rfl⟩
theorem Arg(hG:G[id]?=some (thR th))(hb:th.bare=false)(h:Ad 66 G [.gp m 0,.agg true (tv th.t),Aw th.env,.int .i64 0,.int .i64 deep] out G')(ho:(∃t,out=.ret (.agg true (tv t)))\/∃x,out=.pan x) :
  Ad 67 G [.gp m 0,.gp id 0,.int .i64 deep] out G':=by
 obtain⟨t,e,bb,w,v2⟩:=th;simp only at hb h;subst hb;refine Ap mixed Tryz.func67 tr67 ?_;simp only[go_sem,seval,hG,Zy,Zz,Aby,Abx,Af3,Af4];rcases ho with⟨t,rfl⟩|⟨x,rfl⟩
 ·have hz:=Ae t;refine Ac h ?_;simp only[go_sem,seval,hz]
 ·exact Cn h trivial ⟨rfl,rfl⟩
theorem Bgl(hk:v.k=2)(h1:fit (deep-1))(h2:fit (deep-1-v.level)):Ad 45 G [.gp m 0,vlV v,.int .i64 deep] (.ret (.agg true (tv (.mk 2 (deep-1-v.level) 0 0 [])))) G:=by
 have hc:=Ah5 v.level deep h1 h2;have hz:=Ae (.mk 2 (deep-1-v.level) 0 0 []);refine Ap mixed Tryz.func45 tr45 ?_;simp only[go_sem,seval,vlV,hk];refine Aa hc ?_;simp only[go_sem,seval,hz]
end
inductive RwP(S:SyT)(m j:Nat)(Γ:Gh)(M:Mc)(T:Tm):HOut->GV->Prop
 |ret {G':GV} {M':Mc} (hi:RInv S m j G' Γ M') (mm:Mlq M M') (h2:M'.steps=M.steps) (h1:M.seen<=M'.seen) (h8:M'.seen<=8000000):RwP S m j Γ M T (.ret (.agg true (tv T))) G'
 |out {G':GV} {M':Mc} (hi:RInv S m j G' Γ M') (mm:Mlq M M'):RwP S m j Γ M T (.pan Nz) G'
 |far {G':GV} {M':Mc} (hi:RInv S m j G' Γ M') (mm:Mlq M M') (hg:0<M.guess):RwP S m j Γ M T (.pan Rf) G'
inductive RwL(S:SyT)(m j:Nat)(Γ:Gh)(M:Mc)(Ts:List Tm):(List Tm ⊕ SV)->GV->Prop
 |ret {G':GV} {M':Mc} (hi:RInv S m j G' Γ M') (mm:Mlq M M') (h2:M'.steps=M.steps) (h1:M.seen<=M'.seen) (h8:M'.seen<=8000000):RwL S m j Γ M Ts (.inl Ts) G'
 |out {G':GV} {M':Mc} (hi:RInv S m j G' Γ M') (mm:Mlq M M'):RwL S m j Γ M Ts (.inr Nz) G'
 |far {G':GV} {M':Mc} (hi:RInv S m j G' Γ M') (mm:Mlq M M') (hg:0<M.guess):RwL S m j Γ M Ts (.inr Rf) G'
def rwL(d:Nat)(es:List Tm)(o:Nat)(k:Int):Nat->List Tm->List Tm
 |_,[]=>[]
 |p,t::l=>unl d (o+bnd k p) (Aq es (o+bnd k p) t)::rwL d es o k (p+1) l
theorem Bem(d:Nat)(es:List Tm)(o:Nat)(k:Int):∀(l:List Tm) (p:Nat),trL (fun _ i=>vT i) (unf d) o k p (trL (ivI es) (fun _ l=>fT l) o k p l)=rwL d es o k p l:=by
 intro l
 induction l with
 |nil=>intro p;rw[trL,trL,rwL]
 |cons t l ih=>intro p;rw[trL,trL,rwL,ih];rfl
theorem Ao0{k:Int}(h2:k≠2)(h0:k≠0)(d:Nat)(es:List Tm)(o:Nat)(i j n:Int)(l:List Tm):unl d o (Aq es o (.mk k i j n l))=.mk k i j n (rwL d es o k 0 l):=by
 rw[Qp h2 h0,Ab5 h2 h0,Bem]
section
variable{S:SyT}{m j:Nat}{Γ:Gh}
def RwT(S:SyT)(m j:Nat)(Γ:Gh)(F:Nat):Prop:=∀{G:GV} {M:Mc} {t:Tm} {e:List Nat} {es:List Tm} {o d B:Nat},RInv S m j G Γ M->M.seen<=8000000->8000000<=M.seen+F->EOK Γ Γ.length e es->Sf B t->B+dpt t<=cap->es.length+o+dpt t<=cap->d+o<=2*M.seen+2 ->
 ∃out G',Ad 66 G [.gp m 0,.agg true (tv t),Aw e,.int .i64 (o:Nat),.int .i64 (d:Nat)] out G'/\RwP S m j Γ M (unl d o (Aq es o t)) out G'
theorem Bep{F:Nat}(IH:RwT S m j Γ F){e:List Nat}{es:List Tm}{k:Int}{o d B:Nat}(he:EOK Γ Γ.length e es):∀(l:List Tm) (p:Nat) {G:GV} {M:Mc},RInv S m j G Γ M->M.seen<=8000000->8000000<=M.seen+F ->
  (∀q t,l[q]?=some t->Sf (B+bnd k (p+q)) t/\B+bnd k (p+q)+dpt t<=cap/\es.length+(o+bnd k (p+q))+dpt t<=cap)->d+o<=2*M.seen ->
  ∃out G',RwR m e (o:Nat) (d:Nat) k p l G out G'/\RwL S m j Γ M (rwL d es o k p l) out G':=by
 intro l
 induction l with
 |nil=>intro p G M hi h8 hF _ _;exact⟨_,_,.nil,.ret hi ⟨rfl,Nat.le_refl _,id⟩ rfl (Nat.le_refl _) h8⟩
 |cons t l ih=>
  intro p G M hi h8 hF hl hd;obtain⟨a1,a2,a3⟩:=hl 0 t rfl;have hb:=Sz k p;rw[Nat.add_zero] at a1 a2 a3;obtain⟨out,G1,hc,hp⟩:=IH (o:=o+bnd k p) (d:=d) hi h8 hF he a1 a2 a3 (by omega);rw[Int.natCast_add] at hc;cases hp with
  |out h1 mm=>exact⟨_,_,.pan hc,.out h1 mm⟩
  |far h1 mm hg=>exact⟨_,_,.pan hc,.far h1 mm hg⟩
  |ret h1 mm h2 h3 h4=>
   obtain⟨out2,G2,hr,Jz⟩:=ih (p+1) h1 h4 (by omega) (fun q t hq=>by
    have:=hl (q+1) t (by simpa using hq)
    rwa [show p+(q+1)=p+1+q by omega] at this) (by omega)
   cases Jz with
   |out k1 mm2=>exact⟨_,_,.late hc hr,.out k1 (mm.trans mm2)⟩
   |far k1 mm2 hg=>exact⟨_,_,.late hc hr,.far k1 (mm.trans mm2) (mm.pos hg)⟩
   |ret k1 mm2 k2 k3 k4=>exact⟨_,_,.cons hc hr,.ret k1 (mm.trans mm2) (by omega) (by omega) k4⟩
theorem RwP.outc{M:Mc}{T:Tm}{out:HOut}{G':GV}(h:RwP S m j Γ M T out G'):(∃t,out=.ret (.agg true (tv t)))\/∃x,out=.pan x:=by
 cases h with
 |ret=>exact .inl ⟨_,rfl⟩
 |out=>exact .inr ⟨_,rfl⟩
 |far=>exact .inr ⟨_,rfl⟩
theorem RwP.pre{M M1:Mc}{T:Tm}{out:HOut}{G':GV}(mm:Mlq M M1)(h2:M1.steps=M.steps)(h1:M.seen<=M1.seen)(h:RwP S m j Γ M1 T out G'):RwP S m j Γ M T out G':=by
 cases h with
 |ret hi m2 k2 k1 k8=>exact .ret hi (mm.trans m2) (by omega) (by omega) k8
 |out hi m2=>exact .out hi (mm.trans m2)
 |far hi m2 hg=>exact .far hi (mm.trans m2) (mm.pos hg)
def ToT(S:SyT)(m j:Nat)(Γ:Gh)(F:Nat)(v:Vl):Prop:=∀{G:GV} {M:Mc} {d:Nat},RInv S m j G Γ M->M.seen<=8000000->8000000<=M.seen+F->d<=2*M.seen ->
 ∃out G',Ad 45 G [.gp m 0,vlV v,.int .i64 (d:Nat)] out G'/\RwP S m j Γ M (unl d 0 (TV Γ v)) out G'
theorem Anm{F:Nat}(IH:RwT S m j Γ F){id:Nat}{g:Ge}(hg:Γ[id]?=some (some g))(ho:g.Ok 0)(hT:∀v T,g=.dn v T->ToT S m j Γ F v){G:GV}{M:Mc}{d:Nat}(hi:RInv S m j G Γ M)(h8:M.seen<=8000000)(hF:8000000<=M.seen+F)(hd:d<=2*M.seen) :
  ∃out G',Ad 67 G [.gp m 0,.gp id 0,.int .i64 (d:Nat)] out G'/\RwP S m j Γ M (unl d 0 (g.den 0)) out G':=by
 obtain⟨th,t1,_⟩:=hi.rows id g hg;cases g with
 |kp row=>exact ho.elim
 |dn v T=>
  obtain⟨q1,q2,q3,q4,rfl⟩:=t1;obtain⟨out,G',hc,hp⟩:=hT v _ rfl hi h8 hF hd;exact⟨out,G',Arf q1 q2 q3 hc hp.outc,hp⟩
 |cl t es=>
  obtain⟨q1,q2,q3,q4,_⟩:=t1;obtain⟨o1,⟨B,o2,o4⟩,o3⟩:=ho;subst q3;obtain⟨out,G',hc,hp⟩:=IH (o:=0) (d:=d) hi h8 hF q4.top o2 o4 o3 (by omega);exact⟨out,G',Arg q1 q2 hc hp.outc,hp⟩
def unL(d:Nat)(k:Int):Nat->List Tm->List Tm
 |_,[]=>[]
 |p,t::l=>unl d (bnd k p) t::unL d k (p+1) l
theorem Bg3(d:Nat)(k:Int):∀(l:List Tm) (p:Nat),trL (fun _ i=>vT i) (unf d) 0 k p l=unL d k p l:=by
 intro l
 induction l with
 |nil=>intro p;rw[trL,unL]
 |cons t l ih=>intro p;rw[trL,unL,ih,Nat.zero_add];rfl
theorem Bg4(d:Nat)(k:Int):∀(l:List Tm) (p:Nat),(unL d k p l).length=l.length:=by
 intro l
 induction l with
 |nil=>intro p;rfl
 |cons t l ih=>intro p;rw[unL,List.length_cons,List.length_cons,ih]
theorem Bgg{F d:Nat}{k:Int}(IH:RwT S m j Γ F):∀(l:List Nat) (p:Nat) {G:GV} {M:Mc},RInv S m j G Γ M->M.seen<=8000000->8000000<=M.seen+F ->
  (∀(q:Nat) id,l[q]?=some id->∃g,Γ[id]?=some (some g)/\g.Ok (bnd k (p+q))/\∀v T,g=.dn v T->ToT S m j Γ F v)->d<=2*M.seen ->
  ∃out G',ToR m (d:Nat) k p l G out G'/\RwL S m j Γ M (unL d k p (Gg Γ k p l)) out G':=by
 intro l
 induction l with
 |nil=>intro p G M hi h8 hF _ _;exact⟨_,_,.nil,.ret hi ⟨rfl,Nat.le_refl _,id⟩ rfl (Nat.le_refl _) h8⟩
 |cons i l ih=>
  intro p G M hi h8 hF hl hd;obtain⟨g,hg,ho,hT⟩:=hl 0 i rfl;rw[Nat.add_zero] at ho;have hb:=Sz k p;have key:∃out G1,ToK m (d:Nat) (bnd k p) i G out G1/\RwP S m j Γ M (unl d (bnd k p) (g.den (bnd k p))) out G1:=by
   rcases Nat.eq_zero_or_pos (bnd k p) with hz|hz
   ·rw[hz] at ho |-;obtain⟨out,G1,hc,hp⟩:=Anm IH hg ho hT hi h8 hF hd;exact⟨out,G1,.no rfl hc,hp⟩
   ·obtain⟨th,t1,_⟩:=hi.rows i g hg;cases g with
    |kp row=>exact ho.elim
    |dn v T=>exact absurd ho.1 (by omega)
    |cl t es=>
     obtain⟨tt,te,tb,tw,tx⟩:=th;obtain⟨q1,q2,q3,q4,_⟩:=t1;obtain⟨o1,⟨B,o2,o4⟩,o3⟩:=ho;simp only at q2 q3 q4;subst q2 q3;obtain⟨out,G1,hc,hp⟩:=IH (o:=bnd k p) (d:=d) hi h8 hF q4.top o2 o4 o3 (by omega);exact⟨out,G1,.yes hz q1 hc,hp⟩
  obtain⟨out,G1,hc,hp⟩:=key;rw[Gg,Lc hg,unL];cases hp with
  |out h1 mm=>exact⟨_,_,.pan hc,.out h1 mm⟩
  |far h1 mm hg=>exact⟨_,_,.pan hc,.far h1 mm hg⟩
  |ret h1 mm h2 h3 h4=>
   obtain⟨out2,G2,hr,Jz⟩:=ih (p+1) h1 h4 (by omega) (fun q t hq=>by
    have:=hl (q+1) t (by simpa using hq)
    rwa [show p+(q+1)=p+1+q by omega] at this) (by omega)
   cases Jz with
   |out k1 mm2=>exact⟨_,_,.late hc hr,.out k1 (mm.trans mm2)⟩
   |far k1 mm2 hg=>exact⟨_,_,.late hc hr,.far k1 (mm.trans mm2) (mm.pos hg)⟩
   |ret k1 mm2 k2 k3 k4=>exact⟨_,_,.cons hc hr,.ret k1 (mm.trans mm2) (by omega) (by omega) k4⟩
theorem Aoq{F:Nat}(IH:RwT S m j Γ F):∀(T:Tm) {v:Vl},TV Γ v=T->VOK Γ v->ToT S m j Γ F v:=by
 intro T
 induction T using Tm.ind with
 |h k' i' j'' n' l' ih=>
 intro v hT hv G M d hi h8 hF hd;have hc:cap=1099511627776:=rfl;cases hv with
 |fv lv hl=>
  refine⟨_,_,Bgl rfl (by unfold fit;omega) (by simp only;unfold fit;omega),?_⟩;rw[l3,Aoz];have e:vZ ((d:Int)+(0:Nat)-1-lv)=.mk 2 ((d:Int)-1-lv) 0 0 []:=by
   unfold vZ;congr 1<;>omega
  rw[e];exact .ret hi (.refl M) rfl (Nat.le_refl _) h8
 |@nd k i j' n kids h2 h0 hf hl hk=>
  rw[Jg (show (Vl.mk k i j' n 0 kids).k≠2 from h2)] at hT;simp only at hT;obtain⟨rfl,rfl,rfl,rfl,rfl⟩:=Tm.mk.inj hT;have e:unl d 0 (TV Γ ⟨k,i,j',n,0,kids⟩)=.mk k i j' n (unL d k 0 (Gg Γ k 0 kids)):=by
   rw[Jg (show (Vl.mk k i j' n 0 kids).k≠2 from h2)];simp only;rw[Ab5 h2 h0,Bg3]
  rw[e]
  by_cases Ar:kids=[]
  ·subst Ar;exact⟨_,_,Aoo h2 rfl,.ret hi (.refl M) rfl (Nat.le_refl _) h8⟩
  have Ag:kids.length<=100:=by have:=Pa k n;omega
  obtain⟨out,G',hr,hp⟩:=Bgg (k:=k) IH kids 0 hi h8 hF (fun q id hq=>by
   obtain⟨g,hg,ho⟩:=hk q id hq;rw[Nat.zero_add];refine⟨g,hg,ho,fun v' T' e=>?_⟩;subst e;obtain⟨th,t1,_⟩:=hi.rows id _ hg;obtain⟨_,_,_,w,e⟩:=t1;refine ih T' (List.mem_of_getElem? (i:=q) ?_) e.symm w.ok;rw[Mr,hq,Option.map_some,Lc hg];rfl) hd
  cases hp with
  |out h1 mm=>exact⟨_,_,Aop h2 Ar Ag hr,.out h1 mm⟩
  |far h1 mm hg=>exact⟨_,_,Aop h2 Ar Ag hr,.far h1 mm hg⟩
  |ret h1 mm k2 k3 k4=>
   have Ov:unL d k 0 (Gg Γ k 0 kids)≠[]:=fun c=>by
    have:=congrArg List.length c;rw[Bg4,Nx] at this;exact Ar (List.length_eq_zero_iff.1 this)
   exact⟨_,_,Bgk (v:=⟨k,i,j',n,0,kids⟩) h2 Ar Ag hr Ov,.ret h1 mm k2 k3 k4⟩
theorem Ben:∀F,RwT S m j Γ F:=by
 intro F
 induction F with
 |zero=>
  intro G M t e es o d B hi h8 hF he hs hB hE hd;obtain⟨out,G1,s1,p1⟩:=Abq hi h8;cases p1 with
  |far hi mm h=>exact⟨_,_,Abi s1,.far hi mm h⟩
  |out hi mm h=>exact⟨_,_,Abi s1,.out hi mm⟩
  |ret _ _ _ _ hs=>omega
 |succ F ih=>
  intro G M t e es o d B hi h8 hF he hs hB hE hd;have hc:cap=1099511627776:=rfl;obtain⟨out,G1,s1,p1⟩:=Abq hi h8;cases p1 with
  |far hi mm h=>exact⟨_,_,Abi s1,.far hi mm h⟩
  |out hi mm h=>exact⟨_,_,Abi s1,.out hi mm⟩
  |@ret _ M1 hi1 mm h1 h2 Ii=>
   cases t with
   |mk k i j' n l=>
   by_cases k2:k=2
   ·subst k2;obtain⟨q,rfl,rfl,rfl,rfl,hq⟩:=hs.vr;have hinst:Aq es o (.mk 2 (q:Int) 0 0 [])=ivI es o q:=Cu _ _;rw[hinst]
    by_cases c:q<o
    ·refine⟨_,_,Bds s1 (by omega),?_⟩;have e1:unl d o (ivI es o q)=.mk 2 (q:Int) 0 0 []:=by
      unfold ivI;rw[if_pos c,Bg8];rfl
     rw[e1];exact .ret hi1 mm h2 (by omega) (by omega)
    ·have hql:(q:Int)<cap:=by omega
     cases hg:e[q-o]? with
     |some id=>
      obtain⟨_,g,If,ho,he'⟩:=he.at_ _ _ hg;obtain⟨out,G2,u7,hp⟩:=Anm (d:=d+o) ih If ho (fun v T eg=>by
       subst eg;obtain⟨th,t1,_⟩:=hi1.rows id _ If;obtain⟨_,_,_,w,eT⟩:=t1;exact Aoq ih T eT.symm w.ok) hi1 (by omega) (by omega) (by omega)
      rw[Int.natCast_add] at u7;have e1:unl d o (ivI es o q)=unl (d+o) 0 (g.den 0):=by
       unfold ivI;rw[if_neg c,he',Bg7,Nat.zero_add]
      rw[e1];exact⟨_,_,Bdp s1 (by omega) (by unfold fit;omega) hg (by unfold fit;omega) u7 hp.outc,hp.pre mm h2 (by omega)⟩
     |none=>
      have Ag:=he.len;have Fj:e.length<=q-o:=List.getElem?_eq_none_iff.1 hg;refine⟨_,_,Bdo s1 (by omega) (by unfold fit;omega) hg (by unfold fit;omega) (by unfold fit;omega),?_⟩;have e1:unl d o (ivI es o q)=.mk 2 ((q:Int)-e.length+d) 0 0 []:=by
       unfold ivI;rw[if_neg c,List.getElem?_eq_none (by omega)];simp only;rw[Aoz];unfold vZ;congr 1<;>omega
      rw[e1];exact .ret hi1 mm h2 (by omega) (by omega)
   ·obtain⟨k0,hf,hl⟩:=hs.node k2
    by_cases Ar:l=[]
    ·subst Ar;have e1:unl d o (Aq es o (.mk k i j' n []))=.mk k i j' n []:=by rw[Ao0 k2 k0];rfl
     rw[e1];exact⟨_,_,Bdq s1 k2,.ret hi1 mm h2 (by omega) (by omega)⟩
    rw[Ao0 k2 k0];have Ag:l.length<=100:=by have:=Pa k n;omega
    have Ft:∀p,fit (((o:Nat):Int)+(bnd k p:Nat)):=fun p=>by
     have:=Sz k p;unfold fit;omega
    obtain⟨out,G2,hr,hp⟩:=Bep (o:=o) (d:=d) (B:=B) (k:=k) ih he l 0 hi1 (by omega) (by omega) (fun q t ht=>by
     have a:=hs.kid ht;have b:=Km (k:=k) (i:=i) (j:=j') (n:=n) ht;rw[Nat.zero_add];exact⟨a,by omega,by omega⟩) (by omega)
    cases hp with
    |out g1 mm2=>exact⟨_,_,Anl s1 k2 Ar Ag Ft hr,.out g1 (mm.trans mm2)⟩
    |far g1 mm2 hg=>exact⟨_,_,Anl s1 k2 Ar Ag Ft hr,.far g1 (mm.trans mm2) (mm.pos hg)⟩
    |ret g1 mm2 g2 g3 g4=>exact⟨_,_,Bdr s1 k2 Ar Ag Ft hr,.ret g1 (mm.trans mm2) (by omega) (by omega) g4⟩
theorem Bgj{v:Vl}(hv:VOK Γ v){G:GV}{M:Mc}(hi:RInv S m j G Γ M)(h8:M.seen<=8000000) :
  ∃out G',Ad 45 G [.gp m 0,vlV v,.int .i64 0] out G'/\RwP S m j Γ M (unl 0 0 (TV Γ v)) out G':=
 Aoq (Ben 8000000) _ rfl hv (d:=0) hi h8 (by omega) (by omega)
end
end Go.Proofs.YtdpigpopcbjkmaaGreatDoor.Abs
namespace Go.Proofs.YtdpigpopcbjkmaaGreatDoor.Nrm
open Go Go.RowKit
theorem A8t(tmps:Array Value)(w:World):(results Tryz.f44 tmps).run Tryz.prog w=.ok (.tuple #[]) w:=by simp[results,Tryz.results44]
theorem rec_head(w:World)(b4 b5:Nat)(c4 c5:Array Value)(e4 e5:TypeId)(h4:w.heap[b4]?=some (.cells c4 e4 (0,0)))(h5:w.heap[b5]?=some (.cells c5 e5 (0,0)))(k0:c4[0]?=some (.int .i64 0))(k1:c4[1]?=some (.int .i64 0))(k2:c4[2]?=some (.int .i64 0))(k3:c4[3]?=some (.int .i64 0))(k4:c4[4]?=some (.slice none 0 0))(k5:c5[0]?=some (.int .i64 0))(Ar:b4≠b5) :
  CallsD Tryz.prog 44 #[.pointer (some ⟨b4,0,none⟩),.pointer (some ⟨b5,0,none⟩)] (.panicking [{ v:=outV,recovered:=false }]) w fun e u' w'=>u'=.panicking [{ v:=outV,recovered:=true }]/\e=.returned (.tuple #[])/\Rc w w' b4 b5:=by
 refine callsD_of_wpS Tryz.func44 rfl fun c₀ cs hu=>?_
 apply wpS_seq;apply wpS_region;simp[wpOpsS,go_sem,recoverD,hu,Tryz.ntmps44,Exit.thenS];apply wpS_seq;apply wpS_region;simp[wpOpsS,go_sem,recoverD,hu,Exit.thenS,outV];refine wpS_cond (t:=true) (by simp[Act.eval,Array.replicate]) ?_;simp only[if_true];refine wpS_of_wp ?_;have ht:#[Value.pointer (some ⟨b4,0,none⟩),Value.pointer (some ⟨b5,0,none⟩)]++((((Array.replicate 7 undef).setIfInBounds 1 (Value.iface 75 (.agg #[]))).setIfInBounds 0 (Value.iface 75 (.agg #[]))).setIfInBounds 2 (Value.iface 75 (.agg #[]))).setIfInBounds 3 (Value.bool true)=#[Value.pointer (some ⟨b4,0,none⟩),Value.pointer (some ⟨b5,0,none⟩),Value.iface 75 (.agg #[]),Value.iface 75 (.agg #[]),Value.iface 75 (.agg #[]),Value.bool true,undef,undef,undef]:=rfl;rw[ht]
 go_wp2_with fail
 refine (Ai0 _).mono ?_;rintro e w' ⟨rfl,hb⟩;rw[<-hb.old b4 (lt_of_block h4)] at h4;rw[<-hb.old b5 (lt_of_block h5)] at h5;rw[<-m9 h4] at k0 k1 k2 k3 k4;rw[<-m9 h5] at k5;have f0:=Md h4 0;have f1:=Md h4 1;have f2:=Md h4 2;have f3:=Md h4 3;have f4:=Md h4 4;have f5:=Md h5 0
 go_wp2_with fail
 exact⟨rfl,_,rfl,_,A8t _ _,rfl,rfl,Ann hb ⟨Ar,k0,k1,k2,k3,k4,k5⟩⟩
theorem load_head(tmps:Array Value)(w:World)(b4 b5:Nat)(p4:tmps.getD 4 undef=.pointer (some ⟨b4,0,none⟩))(p5:tmps.getD 5 undef=.pointer (some ⟨b5,0,none⟩))(k0:w.cell? ⟨b4,0,none⟩=some (.int .i64 0))(k1:w.cell? ⟨b4,1,none⟩=some (.int .i64 0))(k2:w.cell? ⟨b4,2,none⟩=some (.int .i64 0))(k3:w.cell? ⟨b4,3,none⟩=some (.int .i64 0))(k4:w.cell? ⟨b4,4,none⟩=some (.slice none 0 0))(k5:w.cell? ⟨b5,0,none⟩=some (.int .i64 6)) :
  (results Tryz.f21 tmps).run Tryz.prog w=.ok (.tuple #[.agg #[.int .i64 0,.int .i64 0,.int .i64 0,.int .i64 0,.slice none 0 0],.int .i64 6]) w:=by
 rw[Array.getD_eq_getD_getElem?] at p4 p5;simp[results,Tryz.results21,p4,p5,go_sem,k0,k1,k2,k3,k4,k5]
end Go.Proofs.YtdpigpopcbjkmaaGreatDoor.Nrm
namespace Go.Proofs.YtdpigpopcbjkmaaGreatDoor.Abs
open Go Go.RowKit Go.Proofs.YtdpigpopcbjkmaaGreatDoor
theorem Af9:Wr Tryz.prog Tryz.f21=some (af21,11,44,[4,5],2):=by kernel_rfl
theorem Amd:j6 Tryz.prog Tryz.f21 44 75 4 5 Br Cd (.tup [.agg true Br,.int .i64 6]):=by
 intro w b1 b2 c1 c2 e1 e2 tmps m R h1 h2 Ar j1 j2 p1 p2 hR;obtain⟨v0,q0,r0⟩:=j1 0 _ rfl;obtain⟨v1,q1,r1⟩:=j1 1 _ rfl;obtain⟨v2,q2,r2⟩:=j1 2 _ rfl;obtain⟨v3,q3,r3⟩:=j1 3 _ rfl;obtain⟨v4,q4,r4⟩:=j1 4 _ rfl;obtain⟨v5,q5,r5⟩:=j2 0 _ rfl;cases r0;cases r1;cases r2;cases r3;cases r4;cases r5;refine leaves_cons (by simp) (Ae4 _ w) ?_;refine (Nrm.rec_head w b1 b2 c1 c2 e1 e2 h1 h2 q0 q1 q2 q3 q4 q5 Ar).mono ?_;rintro e u' w' ⟨rfl,rfl,hc⟩;refine⟨_,Nrm.load_head tmps w' b1 b2 p1 p2 hc.c0 hc.c1 hc.c2 hc.c3 hc.c4 hc.c5,hR _ w' (fun m=>?_) hc.os hc.tape hc.output hc.size hc.old⟩;refine .tup _ _ rfl (fun j v x hv hx=>?_)
 match j,hv,hx with
 |0,hv,hx=>
  cases hv;cases hx;refine .agg _ _ (by decide) rfl (fun j v x hv hx=>?_)
  match j,hv,hx with
  |0,hv,hx=>cases hv;cases hx;exact .int _ _
  |1,hv,hx=>cases hv;cases hx;exact .int _ _
  |2,hv,hx=>cases hv;cases hx;exact .int _ _
  |3,hv,hx=>cases hv;cases hx;exact .int _ _
  |4,hv,hx=>cases hv;cases hx;exact .nils
  |_+5,hv,hx=>simp at hv
 |1,hv,hx=>cases hv;cases hx;exact .int _ _
 |_+2,hv,hx=>simp at hv
theorem A3v{t r:Tm}(ht:TOk t)(hp:Cb t=true){b:Nat}{L:Int}(hL:Con 34 [.float .f64 b] (.int .i64 L)){G':GV}{v:Vl}{G1:GV}(hH:Ad 46 [Br,Cd,[.undef],Bn 0 L 0 0 2,thR ⟨t,[],false,none,none⟩] [.gp 3 0,.gp 4 0] (.ret (vlV v)) G1)(hQ:Ad 45 G1 [.gp 3 0,vlV v,.int .i64 0] (.ret (.agg true (tv r))) G')(g0:G'[0]?=some Br)(g1:G'[1]?=some Cd) :
  Con 21 [.agg true (tv t),.float .f64 b] (.tup [.agg true (tv r),.int .i64 0]):=by
 refine Ah6 mixed Tryz.func21 Af9 Ae4 Nrm.idle_head (Sd _ _) (Aa4 _ _) ?_;have hc:=Rd t ht;rw[show Ef t 2=true from hp] at hc;have hn:=Tr [Br,Cd] L;have hl:=No [Br,Cd,[.undef],Bn 0 L 0 0 2] t [];have Kq:Ad 36 [Br,Cd,[.undef],Bn 0 L 0 0 2] [.agg true (tv t),.nilp] (.ret (.gp 4 0)) [Br,Cd,[.undef],Bn 0 L 0 0 2,thR ⟨t,[],false,none,none⟩]:=hl;clear hl;have h5:=Ae t;generalize thR ⟨t,[],false,none,none⟩=th at *
 have h6:=Ae r;have h7:Ec (tv r)=false:=by cases r;rw[Ak];rfl
 generalize tv r=r0 at *
 generalize tv t=row at *
 unfold Agd;simp only[go_sem,seval,h5];refine Aa hc ?_;simp only[go_sem,seval,h5];refine⟨_,rfl,by simp,_,.trans (.promo _ 2 _ [] Br rfl rfl rfl rfl rfl rfl (by decide) (by simp) (by simp[Kd,Gu,St.put]) (fun q ob' h1 h2 h3 h4=>?_)) (.promo _ 3 _ [Br] Cd rfl rfl rfl rfl rfl rfl (by decide) (by simp) (by simp[Kd,Gu,St.put,Ff]) (fun q ob' h1 h2 h3 h4=>?_)),?_⟩
 ·match q,h1 with
  |0,h1=>cases h1;cases h3
  |1,h1=>cases h1;cases h4
  |2,_=>exact absurd rfl h2
  |3,h1=>cases h1;cases h4
  |q+4,h1=>simp[St.put] at h1
 ·match q,h1 with
  |0,h1=>cases h1;cases h3
  |1,h1=>cases h1;cases h4
  |2,h1=>cases h1;cases h3
  |3,_=>exact absurd rfl h2
  |q+4,h1=>simp[St.put] at h1
 simp only[go_sem,seval,Cy,h5];refine Aa hL ?_;simp only[go_sem,seval,Cy,h5];refine Ac hn ?_;simp only[go_sem,seval,Cy,h5];refine Ac Kq ?_;simp only[go_sem,seval,Cy,h5];refine Ac hH ?_;simp only[go_sem,seval,Cy,h5];refine Ac hQ ?_;have g0':G'[0]?=some [.int .i64 0,.int .i64 0,.int .i64 0,.int .i64 0,.nils]:=g0;have g1':G'[1]?=some [.int .i64 0]:=g1;have l0:0<G'.length:=Dn g0;have l1:1<G'.length:=Dn g1;have gs1:(G'.set 0 r0)[1]?=some [.int .i64 0]:=by rw[List.getElem?_set_ne (by decide)];exact g1'
 have gt0:∀x:List SV,((G'.set 0 r0).set 1 x)[0]?=some r0:=fun x=>by rw[List.getElem?_set_ne (by decide)];exact List.getElem?_set_self l0
 have gt1:∀x:List SV,((G'.set 0 r0).set 1 x)[1]?=some x:=fun x=>List.getElem?_set_self (by rw[List.length_set];exact l1)
 simp only[go_sem,seval,Cy,h5,h6,h7,g0',g1',gs1,gt0,gt1]
theorem A3r{t:Tm}(ht:TOk t)(hp:Cb t=true){b:Nat}{L:Int}(hL:Con 34 [.float .f64 b] (.int .i64 L)){G':GV}(hH:Ad 46 [Br,Cd,[.undef],Bn 0 L 0 0 2,thR ⟨t,[],false,none,none⟩] [.gp 3 0,.gp 4 0] (.pan Nz) G')(g0:G'[0]?=some Br)(g1:G'[1]?=some Cd) :
  Con 21 [.agg true (tv t),.float .f64 b] (.tup [.agg true (tv zt),.int .i64 6]):=by
 refine (Ac2 (r:=.tup [.agg true Br,.int .i64 6]) (i1:=0) (i2:=1) (n':=1) mixed Tryz.func21 Af9 (by decide) rfl rfl Amd (Sd _ _) ?_).weaken (Aat 6);have hc:=Rd t ht;rw[show Ef t 2=true from hp] at hc;have hn:=Tr [Br,Cd] L;have hl:=No [Br,Cd,[.undef],Bn 0 L 0 0 2] t [];have Kq:Ad 36 [Br,Cd,[.undef],Bn 0 L 0 0 2] [.agg true (tv t),.nilp] (.ret (.gp 4 0)) [Br,Cd,[.undef],Bn 0 L 0 0 2,thR ⟨t,[],false,none,none⟩]:=hl;clear hl;have h5:=Ae t;generalize thR ⟨t,[],false,none,none⟩=th at *
 generalize tv t=row at *
 unfold Ab7;simp only[go_sem,seval,h5];refine Aa hc ?_;simp only[go_sem,seval,h5];refine⟨_,rfl,by simp,_,.trans (.promo _ 2 _ [] Br rfl rfl rfl rfl rfl rfl (by decide) (by simp) (by simp[Kd,Gu,St.put]) (fun q ob' h1 h2 h3 h4=>?_)) (.promo _ 3 _ [Br] Cd rfl rfl rfl rfl rfl rfl (by decide) (by simp) (by simp[Kd,Gu,St.put,Ff]) (fun q ob' h1 h2 h3 h4=>?_)),?_,?_⟩
 ·match q,h1 with
  |0,h1=>cases h1;cases h3
  |1,h1=>cases h1;cases h4
  |2,_=>exact absurd rfl h2
  |3,h1=>cases h1;cases h4
  |q+4,h1=>simp[St.put] at h1
 ·match q,h1 with
  |0,h1=>cases h1;cases h3
  |1,h1=>cases h1;cases h4
  |2,h1=>cases h1;cases h3
  |3,_=>exact absurd rfl h2
  |q+4,h1=>simp[St.put] at h1
 ·intro p hp;simp only[List.mem_cons,List.not_mem_nil,or_false] at hp;rcases hp with rfl|rfl<;>exact⟨rfl,by decide⟩
 simp only[go_sem,seval,Cy,h5];refine Aa hL ?_;simp only[go_sem,seval,Cy,h5];refine Ac hn ?_;simp only[go_sem,seval,Cy,h5];refine⟨_,_,_,rfl,?_,?_,?_⟩
 ·intro p hp;simp only[List.mem_cons,List.not_mem_nil,or_false] at hp;rcases hp with rfl|rfl<;>rfl
 ·intro p hp;simp only[List.mem_cons,List.not_mem_nil,or_false] at hp;rcases hp with rfl|rfl<;>simp
 simp only[go_sem,seval,Cy,h5];refine Ac Kq ?_;simp only[go_sem,seval,Cy,h5];exact Cn hH trivial ⟨rfl,g0,g1⟩
theorem A3s{t:Tm}(ht:TOk t)(hp:Cb t=true){b:Nat}{L:Int}(hL:Con 34 [.float .f64 b] (.int .i64 L)){G':GV}{v:Vl}{G1:GV}(hH:Ad 46 [Br,Cd,[.undef],Bn 0 L 0 0 2,thR ⟨t,[],false,none,none⟩] [.gp 3 0,.gp 4 0] (.ret (vlV v)) G1)(hQ:Ad 45 G1 [.gp 3 0,vlV v,.int .i64 0] (.pan Nz) G')(g0:G'[0]?=some Br)(g1:G'[1]?=some Cd) :
  Con 21 [.agg true (tv t),.float .f64 b] (.tup [.agg true (tv zt),.int .i64 6]):=by
 refine (Ac2 (r:=.tup [.agg true Br,.int .i64 6]) (i1:=0) (i2:=1) (n':=1) mixed Tryz.func21 Af9 (by decide) rfl rfl Amd (Sd _ _) ?_).weaken (Aat 6);have hc:=Rd t ht;rw[show Ef t 2=true from hp] at hc;have hn:=Tr [Br,Cd] L;have hl:=No [Br,Cd,[.undef],Bn 0 L 0 0 2] t [];have Kq:Ad 36 [Br,Cd,[.undef],Bn 0 L 0 0 2] [.agg true (tv t),.nilp] (.ret (.gp 4 0)) [Br,Cd,[.undef],Bn 0 L 0 0 2,thR ⟨t,[],false,none,none⟩]:=hl;clear hl;have h5:=Ae t;generalize thR ⟨t,[],false,none,none⟩=th at *
 generalize tv t=row at *
 unfold Ab7;simp only[go_sem,seval,h5];refine Aa hc ?_;simp only[go_sem,seval,h5];refine⟨_,rfl,by simp,_,.trans (.promo _ 2 _ [] Br rfl rfl rfl rfl rfl rfl (by decide) (by simp) (by simp[Kd,Gu,St.put]) (fun q ob' h1 h2 h3 h4=>?_)) (.promo _ 3 _ [Br] Cd rfl rfl rfl rfl rfl rfl (by decide) (by simp) (by simp[Kd,Gu,St.put,Ff]) (fun q ob' h1 h2 h3 h4=>?_)),?_,?_⟩
 ·match q,h1 with
  |0,h1=>cases h1;cases h3
  |1,h1=>cases h1;cases h4
  |2,_=>exact absurd rfl h2
  |3,h1=>cases h1;cases h4
  |q+4,h1=>simp[St.put] at h1
 ·match q,h1 with
  |0,h1=>cases h1;cases h3
  |1,h1=>cases h1;cases h4
  |2,h1=>cases h1;cases h3
  |3,_=>exact absurd rfl h2
  |q+4,h1=>simp[St.put] at h1
 ·intro p hp;simp only[List.mem_cons,List.not_mem_nil,or_false] at hp;rcases hp with rfl|rfl<;>exact⟨rfl,by decide⟩
 simp only[go_sem,seval,Cy,h5];refine Aa hL ?_;simp only[go_sem,seval,Cy,h5];refine Ac hn ?_;simp only[go_sem,seval,Cy,h5];refine⟨_,_,_,rfl,?_,?_,?_⟩
 ·intro p hp;simp only[List.mem_cons,List.not_mem_nil,or_false] at hp;rcases hp with rfl|rfl<;>rfl
 ·intro p hp;simp only[List.mem_cons,List.not_mem_nil,or_false] at hp;rcases hp with rfl|rfl<;>simp
 simp only[go_sem,seval,Cy,h5];refine Ac Kq ?_;simp only[go_sem,seval,Cy,h5];refine Ac hH ?_;simp only[go_sem,seval,Cy,h5];exact Cn hQ trivial ⟨rfl,g0,g1⟩
end Go.Proofs.YtdpigpopcbjkmaaGreatDoor.Abs
