import Derived.Test.YtgfehkhcmnfpaaaGreatDoorIAby
set_option linter.all false
set_option maxRecDepth 20000
set_option maxHeartbeats 4000000
namespace Go.Proofs.YtgfehkhcmnfpaaaGreatDoor.Abs
open Go Go.RowKit
def jk2(l:List SV):List SV:=.J::.J::l
def Aka(l:List SV):jk2 l=.J::.J::l:=q_z
def jk4(l:List SV):List SV:=jk2 (jk2 l)
def Akc(l:List SV):jk4 l=jk2 (jk2 l):=q_z
def jk8(l:List SV):List SV:=jk4 (jk4 l)
def Akd(l:List SV):jk8 l=jk4 (jk4 l):=q_z
def Ef(l:List SV):List SV:=jk8 (jk8 l)
def Aj9(l:List SV):Ef l=jk8 (jk8 l):=q_z
def Cm(l:List SV):List SV:=Ef (Ef l)
def Akb(l:List SV):Cm l=Ef (Ef l):=q_z
attribute [go_sem] Aka Akc Akd Aj9 Akb
attribute [simp] Aka Akc Akd Aj9 Akb
inductive Tm where
 |mk (k i j n:Int) (kids:List Tm)
 deriving Inhabited
namespace Tm
def k:Tm->Int|.mk k _ _ _ _=>k
def i:Tm->Int|.mk _ i _ _ _=>i
def j:Tm->Int|.mk _ _ j _ _=>j
def n:Tm->Int|.mk _ _ _ n _=>n
def kids:Tm->List Tm|.mk _ _ _ _ l=>l
end Tm
def Tm.ind{p:Tm->Prop}(h:∀k i j n l,(∀t∈l,p t)->p (.mk k i j n l)):∀t,p t:=by
 intro t;exact Tm.rec (motive_1:=p) (motive_2:=fun l=>∀t∈l,p t) (fun k i j n l ih=>h k i j n l ih) (fun t ht=>by cases ht) (fun t l h1 h2 u hu=>by
  rcases q_kb.1 hu with rfl|hu
  ·exact h1
  ·exact h2 u hu) t
def tv:Tm->List SV
 |.mk k i j n l=>[.int .i64 k,.int .i64 i,.int .i64 j,.int .i64 n,.dsl 5 (l.map tv)]
def Bp(k i j n:Int)(l:List Tm):tv (.mk k i j n l)=[.int .i64 k,.int .i64 i,.int .i64 j,.int .i64 n,.dsl 5 (l.map tv)]:=by rw[tv]
def Br(t:Tm):(tv t).length=5:=by cases t;rw[Bp];rfl
def fit(n:Int):Prop:=-9223372036854775808<=n/\n<=9223372036854775807
inductive TOk:Tm->Prop
 |mk (k i j n:Int) (l:List Tm):fit k->fit i->fit j->fit n->l.length*56<=140737488355328->(∀t∈l,TOk t)->TOk (.mk k i j n l)
section
variable{P:Program}
end
inductive Lec:SV->SV->Prop
 |refl (v:SV):Lec v v
 |nils (sz:Nat):Lec .nils (.dsl sz [])
inductive Les:List SV->List SV->Prop
 |nil:Les [] []
 |cons (a b:SV) (l r:List SV):Lec a b->Les l r->Les (a::l) (b::r)
inductive Lev:SV->SV->Prop
 |cell (a b:SV):Lec a b->Lev a b
 |agg (l r:List SV):Les l r->Lev (.agg true l) (.agg true r)
inductive Levs:List SV->List SV->Prop
 |nil:Levs [] []
 |cons (a b:SV) (l r:List SV):Lev a b->Levs l r->Levs (a::l) (b::r)
inductive Le:SV->SV->Prop
 |val (a b:SV):Lev a b->Le a b
 |tup (l r:List SV):Levs l r->Le (.tup l) (.tup r)
def Lec.rep{m:Mem}{v:Value}{a b:SV}(h:Lec a b)(hr:Rep m v a):Rep m v b:=by
 cases h with
 |refl=>exact hr
 |nils sz=>cases hr;exact .dsl0 _ _ _
def Les.get{l r:List SV}(h:Les l r):l.length=r.length/\∀(j:Nat) b,r[j]?=some b->∃a,l[j]?=some a/\Lec a b:=by
 induction h with
 |nil=>simp
 |cons a b l r h1 _ ih=>
  refine⟨by simp[ih.1],fun j c hc=>?_⟩;cases j with
  |zero=>simp at hc;subst hc;exact⟨a,rfl,h1⟩
  |succ j=>exact ih.2 j c (by simpa using hc)
def Lev.rep{m:Mem}{v:Value}{a b:SV}(h:Lev a b)(hr:Rep m v a):Rep m v b:=by
 cases h with
 |cell _ _ h=>exact h.rep hr
 |agg l r h=>
  obtain⟨h1,h2⟩:=h.get;cases hr with
  |agg vs _ g0 g1 g2=>
   refine .agg vs r g0 (by omega) (fun j v x hv hx=>?_);obtain⟨a,ha,hle⟩:=h2 j x hx;exact hle.rep (g2 j v a hv ha)
def Levs.get{l r:List SV}(h:Levs l r):l.length=r.length/\∀(j:Nat) b,r[j]?=some b->∃a,l[j]?=some a/\Lev a b:=by
 induction h with
 |nil=>simp
 |cons a b l r h1 _ ih=>
  refine⟨by simp[ih.1],fun j c hc=>?_⟩;cases j with
  |zero=>simp at hc;subst hc;exact⟨a,rfl,h1⟩
  |succ j=>exact ih.2 j c (by simpa using hc)
def Le.rep{m:Mem}{v:Value}{a b:SV}(h:Le a b)(hr:Rep m v a):Rep m v b:=by
 cases h with
 |val _ _ h=>exact h.rep hr
 |tup l r h=>
  obtain⟨h1,h2⟩:=h.get;cases hr with
  |tup vs _ g1 g2=>
   refine .tup vs r (by omega) (fun j v x hv hx=>?_);obtain⟨a,ha,hle⟩:=h2 j x hx;exact hle.rep (g2 j v a hv ha)
def Contract.weaken{P:Program}{f:Nat}{args:List SV}{r r':SV}(h:Contract P f args r)(hl:Le r r'):Contract P f args r':=by
 intro m w vs h1 h2 h3;refine Calls.mono (h m w vs h1 h2 h3) (fun e w' he=>?_);obtain⟨v,m',a1,a2,a3⟩:=he;exact⟨v,m',a1,hl.rep a2,a3⟩
def Les.refl:∀l:List SV,Les l l
 |[]=>.nil
 |a::l=>.cons a a l l (.refl a) (Les.refl l)
def Mp(k i j n:Int):Le (.agg true [.int .i64 k,.int .i64 i,.int .i64 j,.int .i64 n,.nils]) (.agg true (tv (.mk k i j n []))):=by
 rw[Bp];exact .val _ _ (.agg _ _ (.cons _ _ _ _ (.refl _) (.cons _ _ _ _ (.refl _) (.cons _ _ _ _ (.refl _) (.cons _ _ _ _ (.refl _) (.cons _ _ _ _ (.nils 5) .nil))))))
def A3q{C:CT}{o:Cl}{s:St}{K K':St->Prop}(hK:∀s,K s->K' s)(h:vc1 C o s K):vc1 C o s K':=by
 obtain⟨d,op,g,id,fp,chk⟩:=o;cases op with
 |call f args=>
  simp only[vc1] at h |-;split
  ·rename_i vs hh hcl;simp only[hcl] at h;obtain⟨r,h1,h2⟩:=h;exact⟨r,h1,hK _ h2⟩
  ·rename_i hcl;simp only[hcl] at h
 |callv fs x args=>
  simp only[vc1] at h |-;split
  ·rename_i f hf;simp only[hf] at h;split
   ·rename_i hin;simp only[hin,if_true] at h;split
    ·rename_i vs hh hcl;simp only[hcl] at h;obtain⟨r,h1,h2⟩:=h;exact⟨r,h1,hK _ h2⟩
    ·rename_i hcl;simp only[hcl] at h
   ·rename_i hin;rw[if_neg hin] at h;exact h
  ·rename_i hf;split at h
   ·rename_i f Sb;exact absurd Sb (hf f)
   ·exact h
 |pick c a b=>
  simp only[vc1] at h |-;split
  ·rename_i t ht;simp only[ht] at h;exact⟨fun h1=>hK _ (h.1 h1),fun h1=>hK _ (h.2 h1)⟩
  ·rename_i ht;split at h
   ·rename_i t Li;exact absurd Li (ht t)
   ·exact h
 |hcall f args=>
  simp only[vc1] at h |-;split
  ·rename_i vs hh hcl;simp only[hcl] at h;split
   ·rename_i G hG;simp only[hG] at h;obtain⟨T,h1,h2⟩:=h;refine⟨T,h1,fun out G' ho=>?_⟩;have h3:=h2 out G' ho;cases out with
    |ret r=>exact hK _ h3
    |pan x=>exact h3
   ·rename_i hG;simp only[hG] at h
  ·rename_i hcl;simp only[hcl] at h
 |pan x=>exact h
 |bin kd op x y=>
  simp only[vc1] at h |-;split
  ·rename_i va vb hc;simp only[hc] at h;exact⟨fun hb=>hK _ (h.1 hb),hK _ h.2⟩
  ·rename_i hc;simp only[hc] at h;split
   ·rename_i e he;simp only[he] at h;exact⟨h.1,fun ha=>hK _ (h.2 ha)⟩
   ·rename_i he;simp only[he] at h
 |_=>
  simp only[vc1] at h |-;split
  ·rename_i e he;simp only[he] at h;exact⟨h.1,fun ha=>hK _ (h.2 ha)⟩
  ·rename_i he;simp only[he] at h
def Al9{C:CT}{o:Cl}{s:St}{K:St->Prop->Prop}(h:Fj C o s K){K':St->Prop->Prop}(hK:∀s q,K s q->K' s q):Fj C o s K':=by
 obtain⟨d,op,g,id,fp,chk⟩:=o;cases op with
 |call f args=>
  simp only[Fj] at h |-;split
  ·rename_i vs hh hcl;simp only[hcl] at h;obtain⟨r,h1,h2⟩:=h;exact⟨r,h1,hK _ _ h2⟩
  ·rename_i hcl;simp only[hcl] at h
 |callv fs x args=>
  simp only[Fj] at h |-;split
  ·rename_i f hf;simp only[hf] at h;split
   ·rename_i hin;simp only[hin,if_true] at h;split
    ·rename_i vs hh hcl;simp only[hcl] at h;obtain⟨r,h1,h2⟩:=h;exact⟨r,h1,hK _ _ h2⟩
    ·rename_i hcl;simp only[hcl] at h
   ·rename_i hin;rw[if_neg hin] at h;exact h
  ·rename_i hf;split at h
   ·rename_i f Sb;exact absurd Sb (hf f)
   ·exact h
 |pick c a b=>
  simp only[Fj] at h |-;split
  ·rename_i t ht;simp only[ht] at h;exact⟨fun h1=>hK _ _ (h.1 h1),fun h1=>hK _ _ (h.2 h1)⟩
  ·rename_i ht;split at h
   ·rename_i t Li;exact absurd Li (ht t)
   ·exact h
 |hcall f args=>
  simp only[Fj] at h |-;split
  ·rename_i vs hh hcl;simp only[hcl] at h;split
   ·rename_i G hG;simp only[hG] at h;obtain⟨out,G',h1,h2⟩:=h;refine⟨out,G',h1,?_⟩;cases out with
    |ret r=>exact hK _ _ h2
    |pan x=>exact h2
   ·rename_i hG;simp only[hG] at h
  ·rename_i hcl;simp only[hcl] at h
 |pan x=>exact h
 |_=>
  simp only[Fj] at h |-;split
  ·rename_i e he;simp only[he] at h;exact⟨h.1,hK _ _ h.2⟩
  ·rename_i he;simp only[he] at h
def A3u{C:CT}:∀{l:List Cl} {s:St} {K K':St->Prop},(∀s,K s->K' s)->Fs C l s K->Fs C l s K':=by
 intro l
 induction l with
 |nil=>intro s K K' h hv;exact h s hv
 |cons o l ih=>
  intro s K K' h hv;have one:∀{s:St},vc1 C o s (fun s'=>Fs C l s' K)->vc1 C o s (fun s'=>Fs C l s' K'):=by
   intro s hv;exact A3q (fun s=>ih h) hv
  simp only[Fs] at hv |-;split at hv
  ·exact one hv
  ·split at hv
   ·exact⟨fun hb=>one (hv.1 hb),fun hb=>ih h (hv.2 hb)⟩
   ·exact ih h hv
   ·exact hv.elim
def A3r{C:CT}:∀{l:List Cl} {s:St} {fps:List (Nat×AOp×St)} {p:Prop} {K K':St->Prop},(∀s,K s->K' s)->Hl C l s fps p K->Hl C l s fps p K':=by
 intro l
 induction l with
 |nil=>intro s fps p K K' h hv hp;exact h s (hv hp)
 |cons o l ih=>
  intro s fps p K K' h hv;simp only[Hl] at hv |-;split at hv
  ·exact⟨hv.1,Al9 hv.2 (fun s q hk=>⟨hk.1,ih h hk.2⟩)⟩
  ·split at hv
   ·exact⟨fun hb=>⟨(hv.1 hb).1,Al9 (hv.1 hb).2 (fun s q hk=>⟨hk.1,ih h hk.2⟩)⟩,fun hb=>ih h (hv.2 hb)⟩
   ·exact ih h hv
   ·exact hv.elim
def A3s{body:(AE->St->Prop)->St->Prop}(hb:∀(Q Q':AE->St->Prop) (s:St),(∀e s,Q e s->Q' e s)->body Q s->body Q' s){Q Q':AE->St->Prop}(h:∀e s,Q e s->Q' e s):∀{n:Nat} {s:St},Qf body Q n s->Qf body Q' n s:=by
 intro n
 induction n with
 |zero=>intro s h;exact h
 |succ n ih=>
  intro s hv;obtain⟨s0,h1,h2⟩:=hv;refine⟨s0,h1,hb _ _ _ (fun e s he=>?_) h2⟩;cases e with
  |normal=>exact ih he
  |exit id=>exact h _ _ he
  |ret=>exact h _ _ he
def j6{C:CT}:∀{c:AC} {Q Q':AE->St->Prop} {s:St},(∀e s,Q e s->Q' e s)->vc C c Q s->vc C c Q' s:=by
 intro c
 induction c with
 |skip=>intro Q Q' s h hv;exact h _ _ hv
 |reg ops draw=>
  intro Q Q' s h hv;simp only[vc] at hv |-;cases draw with
  |true=>exact A3r (h .normal) hv
  |false=>exact A3u (h .normal) hv
 |seq a b iha ihb=>
  intro Q Q' s h hv;simp only[vc] at hv |-;refine iha (fun e s he=>?_) hv;cases e with
  |normal=>exact ihb h he
  |exit id=>exact h _ _ he
  |ret=>exact h _ _ he
 |cut a b iha ihb=>
  intro Q Q' s h hv;simp only[vc] at hv |-;refine iha (fun e s he=>?_) hv;cases e with
  |normal=>exact ihb h he
  |exit id=>exact h _ _ he
  |ret=>exact h _ _ he
 |cond c a b iha ihb=>
  intro Q Q' s h hv;simp only[vc] at hv |-;split at hv
  ·exact⟨fun ht=>iha h (hv.1 ht),fun ht=>ihb h (hv.2 ht)⟩
  ·exact hv.elim
 |blk id b ih=>
  intro Q Q' s h hv;simp only[vc] at hv |-;refine ih (fun e s he=>?_) hv;cases e with
  |normal=>exact h _ _ he
  |exit j=>
   simp only at he |-;split at he
   ·rename_i hj;rw[if_pos hj];exact h _ _ he
   ·rename_i hj;rw[if_neg hj];exact h _ _ he
  |ret=>exact h _ _ he
 |loop b ih=>
  intro Q Q' s h hv;obtain⟨n,hv⟩:=hv;exact⟨n,A3s (body:=fun Q' s'=>vc C b Q' s') (fun Q Q' s h h2=>ih h h2) h hv⟩
 |exit id=>intro Q Q' s h hv;exact h _ _ hv
 |ret=>intro Q Q' s h hv;exact h _ _ hv
def Aft{C:CT}{b:AC}{Q:AE->St->Prop}(I:Nat->St->Prop)(Jm:∀m s,I m s->∃s0,Wk s s0/\vc C b (fun e s'=>match e with|.normal=>∃m',m'<m/\I m' s'|e=>Q e s') s0) :
  ∀(m:Nat) (s:St),I m s->vc C (.loop b) Q s:=by
 have key:∀n m s,m<n->I m s->Qf (fun Q' s'=>vc C b Q' s') Q n s:=by
  intro n
  induction n with
  |zero=>intro m s hm;omega
  |succ n ih=>
   intro m s hm hI;obtain⟨s0,h1,h2⟩:=Jm m s hI;refine⟨s0,h1,j6 (fun e s' he=>?_) h2⟩;cases e with
   |normal=>
    obtain⟨m',hm',hI'⟩:=he;exact ih m' s' (by omega) hI'
   |exit id=>exact he
   |ret=>exact he
 intro m s hI;exact⟨m+1,key (m+1) m s (by omega) hI⟩
def sq(C:CT)(b:AC)(Q:AE->St->Prop):AE->St->Prop:=fun e s'=>match e with|.normal=>vc C b Q s'|e=>Q e s'
def bk(id:Nat)(Q:AE->St->Prop):AE->St->Prop:=fun e s'=>match e with|.exit j=>if j=id then Q .normal s' else Q (.exit j) s'|e=>Q e s'
def ok(C:CT)(rest:List Cl)(K:St->Prop)(s:St):Prop:=Fs C rest s K
def okD(C:CT)(o:Cl)(rest:List Cl)(s0:St)(fps:List (Nat×AOp×St))(p:Prop)(K:St->Prop)(s:St)(q:Prop):Prop:=Rk o s0 fps s/\Hl C rest s (if o.fp then (o.id,o.op,s0)::fps else fps) (p/\q) K
def goG(C:CT)(o:Cl)(rest:List Cl)(K:St->Prop)(s:St):Prop:=vc1 C o s (ok C rest K)
def skG(C:CT)(o:Cl)(rest:List Cl)(K:St->Prop)(s:St):Prop:=Fs C rest (s.put o.d .undef) K
def goD(C:CT)(o:Cl)(rest:List Cl)(fps:List (Nat×AOp×St))(p:Prop)(K:St->Prop)(s:St):Prop:=clear o s fps/\Fj C o s (okD C o rest s fps p K)
def skD(C:CT)(o:Cl)(rest:List Cl)(fps:List (Nat×AOp×St))(p:Prop)(K:St->Prop)(s:St):Prop:=Hl C rest (s.put o.d .undef) fps p K
def pk(o:Cl)(x:AX)(K:St->Prop)(s:St):Prop:=K (s.put o.d (s.get x))
def pkD(o:Cl)(x:AX)(K:St->Prop->Prop)(s:St):Prop:=K (s.put o.d (s.get x)) True
def Ab4(C:CT)(f:Nat)(vs:List SV)(P:SV->Prop):Prop:=∃r,C.p f vs r/\P r
def Ag{Q:Program}{X:SV->GV->Prop}{f:Nat}{vs:List SV}{P:SV->Prop}{r:SV}(h:Contract Q f vs r)(hP:P r):Ab4 (Fb Q X) f vs P:=⟨r,h,hP⟩
def Ab3(C:CT)(t:Bool)(f:Nat)(G:GV)(vs:List SV)(b:Prop)(P:SV->GV->Prop):Prop:=
 match t with
 |true=>∃T,C.q f G vs T/\∀out G',T out G'->(match out with|.ret r=>P r G'|.pan x=>b/\C.x x G')
 |false=>∃out G',C.h f G vs out G'/\(match out with|.ret r=>P r G'|.pan x=>b/\C.x x G')
def Ac{Q:Program}{X:SV->GV->Prop}{t:Bool}{f:Nat}{G G':GV}{vs:List SV}{b:Prop}{P:SV->GV->Prop}{r:SV}(h:HContract Q f G vs (.ret r) G')(hP:P r G'):Ab3 (Fb Q X) t f G vs b P:=by
 cases t with
 |false=>exact⟨.ret r,G',h,hP⟩
 |true=>exact⟨_,h.q,fun out G1 ho=>by obtain⟨rfl,rfl⟩:=ho;exact hP⟩
def Ali(sl:List SV)(h:List Ob)(d:Option Nat)(K:St->Prop)(r:SV)(G':GV):Prop:=K (St.put ⟨sl,h.set 0 (gOb G')⟩ d r)
def Alj(sl:List SV)(h:List Ob)(d:Option Nat)(K:St->Prop->Prop)(r:SV)(G':GV):Prop:=K (St.put ⟨sl,h.set 0 (gOb G')⟩ d r) True
def A0c{sl:List SV}{h:List Ob}{d:Option Nat}{K:St->Prop}{r:SV}{G':GV}:Ali sl h d K r G'=K (St.put ⟨sl,h.set 0 (gOb G')⟩ d r):=q_z
def A0b{sl:List SV}{h:List Ob}{d:Option Nat}{K:St->Prop->Prop}{r:SV}{G':GV}:Alj sl h d K r G'=K (St.put ⟨sl,h.set 0 (gOb G')⟩ d r) True:=q_z
def Au1{G:GV}{hp:List Ob}:gOf (gOb G::hp)=some G:=q_z
def rtG(res:List AR)(out:HOut)(G':GV):AE->St->Prop:=fun e s=>match e with|.exit _=>False|_=>match out with|.ret r=>Pg res r G' s|.pan _=>False
def Alk(sl:List SV)(h:List Ob)(d:Option Nat)(K:St->Prop)(r:SV):Prop:=K (St.put ⟨sl,h⟩ d r)
def All(sl:List SV)(h:List Ob)(d:Option Nat)(K:St->Prop->Prop)(r:SV):Prop:=K (St.put ⟨sl,h⟩ d r) True
def A0e{sl:List SV}{h:List Ob}{d:Option Nat}{K:St->Prop}{r:SV}:Alk sl h d K r=K (St.put ⟨sl,h⟩ d r):=q_z
def A0d{sl:List SV}{h:List Ob}{d:Option Nat}{K:St->Prop->Prop}{r:SV}:All sl h d K r=K (St.put ⟨sl,h⟩ d r) True:=q_z
def rt(res:List AR)(r:SV):AE->St->Prop:=fun e s=>match e with|.exit _=>False|_=>Ms res r s
section
variable{C:CT}{a b:AC}{Q:AE->St->Prop}{sl:List SV}{hp:List Ob}{s:St}{K:St->Prop}{KD:St->Prop->Prop}{o:Cl}{rest:List Cl}{fps:List (Nat×AOp×St)}{p q:Prop}{id j:Nat}
def ev_F{n:Nat}{res:List AR}{args:List SV}{r:SV}:vcF C { ntmps:=n,res:=res,body:=b } args r=vc C b (rt res r) ⟨args++List.replicate (n-args.length) .undef,[]⟩:=q_z
def rt_n{res:List AR}{r:SV}:rt res r .normal s=Ms res r s:=q_z
def rt_r{res:List AR}{r:SV}:rt res r .ret s=Ms res r s:=q_z
def At4{res:List AR}{r:SV}:Ms res r ⟨sl,hp⟩=(match Nu ⟨sl,hp⟩ res with
 |some (p,vs,_)=>p/\r=(match vs with|[v]=>v|vs=>.tup vs)
 |none=>False):=q_z
def sq_n:sq C b Q .normal s=vc C b Q s:=q_z
def sq_e:sq C b Q (.exit j) s=Q (.exit j) s:=q_z
def sq_r:sq C b Q .ret s=Q .ret s:=q_z
def bk_n:bk id Q .normal s=Q .normal s:=q_z
def bk_e:bk id Q (.exit j) s=if j=id then Q .normal s else Q (.exit j) s:=q_z
def bk_r:bk id Q .ret s=Q .ret s:=q_z
def Aub:vc C .skip Q s=Q .normal s:=q_z
def At3:vc C .ret Q s=Q .ret s:=q_z
def Atc:vc C (.exit id) Q s=Q (.exit id) s:=q_z
def At1{ops:List Cl}:vc C (.reg ops false) Q ⟨sl,hp⟩=Fs C ops ⟨sl,hp⟩ (Q .normal):=by simp[vc]
def At2{ops:List Cl}:vc C (.reg ops true) Q ⟨sl,hp⟩=Hl C ops ⟨sl,hp⟩ [] True (Q .normal):=by simp[vc]
def At7:vc C (.seq a b) Q ⟨sl,hp⟩=vc C a (sq C b Q) ⟨sl,hp⟩:=q_z
def Aso:vc C (.cut a b) Q ⟨sl,hp⟩=vc C a (sq C b Q) ⟨sl,hp⟩:=q_z
def Ase:vc C (.blk id b) Q ⟨sl,hp⟩=vc C b (bk id Q) ⟨sl,hp⟩:=q_z
def Ask{c:AX}:vc C (.cond c a b) Q ⟨sl,hp⟩=(match St.get ⟨sl,hp⟩ c with|.bool t=>gs t ⟨sl,hp⟩ (vc C a Q) (vc C b Q)|_=>False):=q_z
def Asb{n:Nat}{res:List AR}{G G':GV}{args:List SV}{out:HOut}:Amu C { ntmps:=n,res:=res,body:=b } G args out G'=vc C b (rtG res out G') ⟨args++List.replicate (n-args.length) .undef,[gOb G]⟩:=q_z
def A1i{res:List AR}{G':GV}{r:SV}:rtG res (.ret r) G' .normal s=Pg res r G' s:=q_z
def A1j{res:List AR}{G':GV}{r:SV}:rtG res (.ret r) G' .ret s=Pg res r G' s:=q_z
def At5{res:List AR}{G':GV}{r:SV}:Pg res r G' ⟨sl,hp⟩=(match Nu ⟨sl,hp⟩ res with
 |some (p,vs,h)=>p/\r=(match vs with|[v]=>v|vs=>.tup vs)/\gOf h=some G'
 |none=>False):=q_z
def At6{res:List AR}{T:HOut->GV->Prop}:Xa res T ⟨sl,hp⟩=(match Nu ⟨sl,hp⟩ res with
 |some (p,vs,h)=>p/\(match gOf h with
  |some G'=>T (.ret (match vs with|[v]=>v|vs=>.tup vs)) G'
  |none=>False)
 |none=>False):=q_z
def Ats:Fs C [] s K=K s:=q_z
def Atu:ok C rest K s=Fs C rest s K:=q_z
def Asl{d:Option Nat}{op:AOp}{id:Nat}{fp:Bool}{chk:List Nat}:Fs C (⟨d,op,none,id,fp,chk⟩::rest) ⟨sl,hp⟩ K=vc1 C ⟨d,op,none,id,fp,chk⟩ ⟨sl,hp⟩ (ok C rest K):=q_z
def Asm{d:Option Nat}{op:AOp}{t:Nat}{w:Bool}{id:Nat}{fp:Bool}{chk:List Nat}:Fs C (⟨d,op,some (t,w),id,fp,chk⟩::rest) ⟨sl,hp⟩ K =
  (match sl.getD t .undef with
   |.bool b=>gs (b==w) ⟨sl,hp⟩ (goG C ⟨d,op,some (t,w),id,fp,chk⟩ rest K) (skG C ⟨d,op,some (t,w),id,fp,chk⟩ rest K)
   |.undef=>Fs C rest (St.put ⟨sl,hp⟩ d .undef) K
   |_=>False):=q_z
def Ati:goG C o rest K ⟨sl,hp⟩=vc1 C o ⟨sl,hp⟩ (ok C rest K):=q_z
def Aua:skG C o rest K ⟨sl,hp⟩=Fs C rest (St.put ⟨sl,hp⟩ o.d .undef) K:=q_z
def Atx{x:AX}:pk o x K ⟨sl,hp⟩=K (St.put ⟨sl,hp⟩ o.d (St.get ⟨sl,hp⟩ x)):=q_z
def Aty{x:AX}:pkD o x KD ⟨sl,hp⟩=KD (St.put ⟨sl,hp⟩ o.d (St.get ⟨sl,hp⟩ x)) True:=q_z
def Asj{d:Option Nat}{g:Option (Nat×Bool)}{fp:Bool}{chk:List Nat}{f:Nat}{args:List AX}:vc1 C ⟨d,.call f args,g,id,fp,chk⟩ ⟨sl,hp⟩ K=(match Fg hp (args.map (St.get ⟨sl,hp⟩)) with
  |some (vs,h)=>Ab4 C f vs (Alk sl h d K)
  |none=>False):=q_z
def Atw{d:Option Nat}{g:Option (Nat×Bool)}{fp:Bool}{chk:List Nat}{c x y:AX}:vc1 C ⟨d,.pick c x y,g,id,fp,chk⟩ ⟨sl,hp⟩ K=(match St.get ⟨sl,hp⟩ c with
  |.bool t=>gs t ⟨sl,hp⟩ (pk ⟨d,.pick c x y,g,id,fp,chk⟩ x K) (pk ⟨d,.pick c x y,g,id,fp,chk⟩ y K)
  |_=>False):=q_z
def Atj{d:Option Nat}{g:Option (Nat×Bool)}{fp:Bool}{chk:List Nat}{f:Nat}{args:List AX}:vc1 C ⟨d,.hcall f args,g,id,fp,chk⟩ ⟨sl,hp⟩ K=(match Fg hp (args.map (St.get ⟨sl,hp⟩)) with
  |some (vs,h)=>(match gOf h with
   |some G=>Ab3 C true f G vs True (Ali sl h d K)
   |none=>False)
  |none=>False):=by
 show (match Fg hp (args.map (St.get ⟨sl,hp⟩)) with
  |some (vs,h)=>(match gOf h with
   |some G=>∃T,C.q f G vs T/\∀out G',T out G'->(match out with|.ret r=>K (St.put ⟨sl,h.set 0 (gOb G')⟩ d r)|.pan x=>C.x x G')
   |none=>False)
  |none=>False)=_
 cases Fg hp (args.map (St.get ⟨sl,hp⟩)) with
 |none=>rfl
 |some q=>
  obtain⟨vs,h⟩:=q;simp only;cases gOf h with
  |none=>rfl
  |some G=>
   refine propext ⟨fun ⟨T,h1,h2⟩=>⟨T,h1,fun out G' ho=>?_⟩,fun ⟨T,h1,h2⟩=>⟨T,h1,fun out G' ho=>?_⟩⟩
   ·have h3:=h2 out G' ho;cases out with
    |ret r=>exact h3
    |pan x=>exact⟨trivial,h3⟩
   ·have h3:=h2 out G' ho;cases out with
    |ret r=>exact h3
    |pan x=>exact h3.2
def Asy{d:Option Nat}{g:Option (Nat×Bool)}{fp:Bool}{chk:List Nat}{f:Nat}{args:List AX}:Fj C ⟨d,.hcall f args,g,id,fp,chk⟩ ⟨sl,hp⟩ KD=(match Fg hp (args.map (St.get ⟨sl,hp⟩)) with
  |some (vs,h)=>(match gOf h with
   |some G=>Ab3 C false f G vs (chk.contains id=true) (Alj sl h d KD)
   |none=>False)
  |none=>False):=q_z
def Ho(o:Option Eff)(sl:List SV)(d:Option Nat)(K:St->Prop):Prop:=match o with
 |some e=>e.ob/\(e.as->K (St.put ⟨sl,e.hp⟩ d e.val))
 |none=>False
def Jf(o:Option Eff)(sl:List SV)(d:Option Nat)(K:St->Prop->Prop):Prop:=match o with
 |some e=>e.ob/\K (St.put ⟨sl,e.hp⟩ d e.val) e.as
 |none=>False
def Aum{e:Eff}{d:Option Nat}:Ho (some e) sl d K=(e.ob/\(e.as->K (St.put ⟨sl,e.hp⟩ d e.val))):=q_z
def Aun{e:Eff}{d:Option Nat}:Jf (some e) sl d KD=(e.ob/\KD (St.put ⟨sl,e.hp⟩ d e.val) e.as):=q_z
def Atq{d:Option Nat}{g:Option (Nat×Bool)}{fp:Bool}{chk:List Nat}(x:AX):vc1 C ⟨d,.mv x,g,id,fp,chk⟩ ⟨sl,hp⟩ K=Ho (Bj ⟨sl,hp⟩ (.mv x)) sl d K:=q_z
def As3{d:Option Nat}{g:Option (Nat×Bool)}{fp:Bool}{chk:List Nat}(x:AX):Fj C ⟨d,.mv x,g,id,fp,chk⟩ ⟨sl,hp⟩ KD=Jf (Bj ⟨sl,hp⟩ (.mv x)) sl d KD:=q_z
def Atr{d:Option Nat}{g:Option (Nat×Bool)}{fp:Bool}{chk:List Nat}(cells:List SV):vc1 C ⟨d,.new cells,g,id,fp,chk⟩ ⟨sl,hp⟩ K=Ho (Bj ⟨sl,hp⟩ (.new cells)) sl d K:=q_z
def As4{d:Option Nat}{g:Option (Nat×Bool)}{fp:Bool}{chk:List Nat}(cells:List SV):Fj C ⟨d,.new cells,g,id,fp,chk⟩ ⟨sl,hp⟩ KD=Jf (Bj ⟨sl,hp⟩ (.new cells)) sl d KD:=q_z
def Asf{d:Option Nat}{g:Option (Nat×Bool)}{fp:Bool}{chk:List Nat}(x:AX):vc1 C ⟨d,.box x,g,id,fp,chk⟩ ⟨sl,hp⟩ K=Ho (Bj ⟨sl,hp⟩ (.box x)) sl d K:=q_z
def Asi{d:Option Nat}{g:Option (Nat×Bool)}{fp:Bool}{chk:List Nat}(z:List SV)(ps:List (Nat×Nat×AX)):vc1 C ⟨d,.build z ps,g,id,fp,chk⟩ ⟨sl,hp⟩ K=Ho (Bj ⟨sl,hp⟩ (.build z ps)) sl d K:=q_z
def Ass{d:Option Nat}{g:Option (Nat×Bool)}{fp:Bool}{chk:List Nat}(z:List SV)(ps:List (Nat×Nat×AX)):Fj C ⟨d,.build z ps,g,id,fp,chk⟩ ⟨sl,hp⟩ KD=Jf (Bj ⟨sl,hp⟩ (.build z ps)) sl d KD:=q_z
def Ash{d:Option Nat}{g:Option (Nat×Bool)}{fp:Bool}{chk:List Nat}(sz:Nat)(ps:List AX):vc1 C ⟨d,.bslice sz ps,g,id,fp,chk⟩ ⟨sl,hp⟩ K=Ho (Bj ⟨sl,hp⟩ (.bslice sz ps)) sl d K:=q_z
def Asr{d:Option Nat}{g:Option (Nat×Bool)}{fp:Bool}{chk:List Nat}(sz:Nat)(ps:List AX):Fj C ⟨d,.bslice sz ps,g,id,fp,chk⟩ ⟨sl,hp⟩ KD=Jf (Bj ⟨sl,hp⟩ (.bslice sz ps)) sl d KD:=q_z
def Atm{d:Option Nat}{g:Option (Nat×Bool)}{fp:Bool}{chk:List Nat}(ag:Bool)(n:Nat)(x:AX):vc1 C ⟨d,.load ag n x,g,id,fp,chk⟩ ⟨sl,hp⟩ K=Ho (Bj ⟨sl,hp⟩ (.load ag n x)) sl d K:=q_z
def As1{d:Option Nat}{g:Option (Nat×Bool)}{fp:Bool}{chk:List Nat}(ag:Bool)(n:Nat)(x:AX):Fj C ⟨d,.load ag n x,g,id,fp,chk⟩ ⟨sl,hp⟩ KD=Jf (Bj ⟨sl,hp⟩ (.load ag n x)) sl d KD:=q_z
def Aud{d:Option Nat}{g:Option (Nat×Bool)}{fp:Bool}{chk:List Nat}(n:Nat)(x y:AX):vc1 C ⟨d,.store n x y,g,id,fp,chk⟩ ⟨sl,hp⟩ K=Ho (Bj ⟨sl,hp⟩ (.store n x y)) sl d K:=q_z
def Ata{d:Option Nat}{g:Option (Nat×Bool)}{fp:Bool}{chk:List Nat}(n:Nat)(x y:AX):Fj C ⟨d,.store n x y,g,id,fp,chk⟩ ⟨sl,hp⟩ KD=Jf (Bj ⟨sl,hp⟩ (.store n x y)) sl d KD:=q_z
def Att{d:Option Nat}{g:Option (Nat×Bool)}{fp:Bool}{chk:List Nat}(x:AX):vc1 C ⟨d,.nilck x,g,id,fp,chk⟩ ⟨sl,hp⟩ K=Ho (Bj ⟨sl,hp⟩ (.nilck x)) sl d K:=q_z
def As6{d:Option Nat}{g:Option (Nat×Bool)}{fp:Bool}{chk:List Nat}(x:AX):Fj C ⟨d,.nilck x,g,id,fp,chk⟩ ⟨sl,hp⟩ KD=Jf (Bj ⟨sl,hp⟩ (.nilck x)) sl d KD:=q_z
def Asd{d:Option Nat}{g:Option (Nat×Bool)}{fp:Bool}{chk:List Nat}(kd:Nat)(op:BinOp)(x y:AX):vc1 C ⟨d,.bin kd op x y,g,id,fp,chk⟩ ⟨sl,hp⟩ K=(match Pj kd op (St.get ⟨sl,hp⟩ x) (St.get ⟨sl,hp⟩ y) with
 |some (va,vb)=>(C.b (St.get ⟨sl,hp⟩ x) (St.get ⟨sl,hp⟩ y)->K (St.put ⟨sl,hp⟩ d va))/\K (St.put ⟨sl,hp⟩ d vb)
 |none=>Ho (Bj ⟨sl,hp⟩ (.bin kd op x y)) sl d K):=q_z
def Asq{d:Option Nat}{g:Option (Nat×Bool)}{fp:Bool}{chk:List Nat}(kd:Nat)(op:BinOp)(x y:AX):Fj C ⟨d,.bin kd op x y,g,id,fp,chk⟩ ⟨sl,hp⟩ KD=Jf (Bj ⟨sl,hp⟩ (.bin kd op x y)) sl d KD:=q_z
def Aue{d:Option Nat}{g:Option (Nat×Bool)}{fp:Bool}{chk:List Nat}(op:UnOp)(x:AX):vc1 C ⟨d,.un op x,g,id,fp,chk⟩ ⟨sl,hp⟩ K=Ho (Bj ⟨sl,hp⟩ (.un op x)) sl d K:=q_z
def Atb{d:Option Nat}{g:Option (Nat×Bool)}{fp:Bool}{chk:List Nat}(op:UnOp)(x:AX):Fj C ⟨d,.un op x,g,id,fp,chk⟩ ⟨sl,hp⟩ KD=Jf (Bj ⟨sl,hp⟩ (.un op x)) sl d KD:=q_z
def Asn{d:Option Nat}{g:Option (Nat×Bool)}{fp:Bool}{chk:List Nat}(k:IntKind)(x:AX):vc1 C ⟨d,.conv k x,g,id,fp,chk⟩ ⟨sl,hp⟩ K=Ho (Bj ⟨sl,hp⟩ (.conv k x)) sl d K:=q_z
def Atn{d:Option Nat}{g:Option (Nat×Bool)}{fp:Bool}{chk:List Nat}(sz by_:Nat)(z:List SV)(x y:AX):vc1 C ⟨d,.mk sz by_ z x y,g,id,fp,chk⟩ ⟨sl,hp⟩ K=Ho (Bj ⟨sl,hp⟩ (.mk sz by_ z x y)) sl d K:=q_z
def Auc{d:Option Nat}{g:Option (Nat×Bool)}{fp:Bool}{chk:List Nat}(z:Nat)(x:AX)(lo hi:Option AX):vc1 C ⟨d,.slc z x lo hi,g,id,fp,chk⟩ ⟨sl,hp⟩ K=Ho (Bj ⟨sl,hp⟩ (.slc z x lo hi)) sl d K:=q_z
def As9{d:Option Nat}{g:Option (Nat×Bool)}{fp:Bool}{chk:List Nat}(z:Nat)(x:AX)(lo hi:Option AX):Fj C ⟨d,.slc z x lo hi,g,id,fp,chk⟩ ⟨sl,hp⟩ KD=Jf (Bj ⟨sl,hp⟩ (.slc z x lo hi)) sl d KD:=q_z
def Ate{d:Option Nat}{g:Option (Nat×Bool)}{fp:Bool}{chk:List Nat}(off:Nat)(x:AX):vc1 C ⟨d,.fad off x,g,id,fp,chk⟩ ⟨sl,hp⟩ K=Ho (Bj ⟨sl,hp⟩ (.fad off x)) sl d K:=q_z
def Asx{d:Option Nat}{g:Option (Nat×Bool)}{fp:Bool}{chk:List Nat}(off:Nat)(x:AX):Fj C ⟨d,.fad off x,g,id,fp,chk⟩ ⟨sl,hp⟩ KD=Jf (Bj ⟨sl,hp⟩ (.fad off x)) sl d KD:=q_z
def Atk{d:Option Nat}{g:Option (Nat×Bool)}{fp:Bool}{chk:List Nat}(sz:Nat)(x y:AX):vc1 C ⟨d,.iad sz x y,g,id,fp,chk⟩ ⟨sl,hp⟩ K=Ho (Bj ⟨sl,hp⟩ (.iad sz x y)) sl d K:=q_z
def Asz{d:Option Nat}{g:Option (Nat×Bool)}{fp:Bool}{chk:List Nat}(sz:Nat)(x y:AX):Fj C ⟨d,.iad sz x y,g,id,fp,chk⟩ ⟨sl,hp⟩ KD=Jf (Bj ⟨sl,hp⟩ (.iad sz x y)) sl d KD:=q_z
def Atl{d:Option Nat}{g:Option (Nat×Bool)}{fp:Bool}{chk:List Nat}(st:Bool)(x:AX):vc1 C ⟨d,.len st x,g,id,fp,chk⟩ ⟨sl,hp⟩ K=Ho (Bj ⟨sl,hp⟩ (.len st x)) sl d K:=q_z
def As0{d:Option Nat}{g:Option (Nat×Bool)}{fp:Bool}{chk:List Nat}(st:Bool)(x:AX):Fj C ⟨d,.len st x,g,id,fp,chk⟩ ⟨sl,hp⟩ KD=Jf (Bj ⟨sl,hp⟩ (.len st x)) sl d KD:=q_z
def Asc{d:Option Nat}{g:Option (Nat×Bool)}{fp:Bool}{chk:List Nat}(sz by_:Nat)(x y:AX):vc1 C ⟨d,.app sz by_ x y,g,id,fp,chk⟩ ⟨sl,hp⟩ K=Ho (Bj ⟨sl,hp⟩ (.app sz by_ x y)) sl d K:=q_z
def Asp{d:Option Nat}{g:Option (Nat×Bool)}{fp:Bool}{chk:List Nat}(sz by_:Nat)(x y:AX):Fj C ⟨d,.app sz by_ x y,g,id,fp,chk⟩ ⟨sl,hp⟩ KD=Jf (Bj ⟨sl,hp⟩ (.app sz by_ x y)) sl d KD:=q_z
def Atd{d:Option Nat}{g:Option (Nat×Bool)}{fp:Bool}{chk:List Nat}(x:AX)(i:Nat):vc1 C ⟨d,.ext x i,g,id,fp,chk⟩ ⟨sl,hp⟩ K=Ho (Bj ⟨sl,hp⟩ (.ext x i)) sl d K:=q_z
def Asw{d:Option Nat}{g:Option (Nat×Bool)}{fp:Bool}{chk:List Nat}(x:AX)(i:Nat):Fj C ⟨d,.ext x i,g,id,fp,chk⟩ ⟨sl,hp⟩ KD=Jf (Bj ⟨sl,hp⟩ (.ext x i)) sl d KD:=q_z
def Atp{d:Option Nat}{g:Option (Nat×Bool)}{fp:Bool}{chk:List Nat}(mx:Bool)(x y:AX):vc1 C ⟨d,.mnx mx x y,g,id,fp,chk⟩ ⟨sl,hp⟩ K=Ho (Bj ⟨sl,hp⟩ (.mnx mx x y)) sl d K:=q_z
def As2{d:Option Nat}{g:Option (Nat×Bool)}{fp:Bool}{chk:List Nat}(mx:Bool)(x y:AX):Fj C ⟨d,.mnx mx x y,g,id,fp,chk⟩ ⟨sl,hp⟩ KD=Jf (Bj ⟨sl,hp⟩ (.mnx mx x y)) sl d KD:=q_z
def Asg{d:Option Nat}{g:Option (Nat×Bool)}{fp:Bool}{chk:List Nat}(x:AX):vc1 C ⟨d,.boxg x,g,id,fp,chk⟩ ⟨sl,hp⟩ K=Ho (Bj ⟨sl,hp⟩ (.boxg x)) sl d K:=q_z
def Ato{d:Option Nat}{g:Option (Nat×Bool)}{fp:Bool}{chk:List Nat} :vc1 C ⟨d,.mkmap,g,id,fp,chk⟩ ⟨sl,hp⟩ K=Ho (Bj ⟨sl,hp⟩ .mkmap) sl d K:=q_z
def At8{d:Option Nat}{g:Option (Nat×Bool)}{fp:Bool}{chk:List Nat}(x i:AX):vc1 C ⟨d,.six x i,g,id,fp,chk⟩ ⟨sl,hp⟩ K=Ho (Bj ⟨sl,hp⟩ (.six x i)) sl d K:=q_z
def As8{d:Option Nat}{g:Option (Nat×Bool)}{fp:Bool}{chk:List Nat}(x i:AX):Fj C ⟨d,.six x i,g,id,fp,chk⟩ ⟨sl,hp⟩ KD=Jf (Bj ⟨sl,hp⟩ (.six x i)) sl d KD:=q_z
def As5:Hl C [] s fps p K=(p->K s):=q_z
def Atv:okD C o rest s fps p K ⟨sl,hp⟩ q=(Rk o s fps ⟨sl,hp⟩/\Hl C rest ⟨sl,hp⟩ (if o.fp then (o.id,o.op,s)::fps else fps) (p/\q) K):=q_z
def Asu{d:Option Nat}{op:AOp}{id:Nat}{fp:Bool}{chk:List Nat}:Hl C (⟨d,op,none,id,fp,chk⟩::rest) ⟨sl,hp⟩ fps p K=(clear ⟨d,op,none,id,fp,chk⟩ ⟨sl,hp⟩ fps/\Fj C ⟨d,op,none,id,fp,chk⟩ ⟨sl,hp⟩ (okD C ⟨d,op,none,id,fp,chk⟩ rest ⟨sl,hp⟩ fps p K)):=q_z
def Asv{d:Option Nat}{op:AOp}{t:Nat}{w:Bool}{id:Nat}{fp:Bool}{chk:List Nat}:Hl C (⟨d,op,some (t,w),id,fp,chk⟩::rest) ⟨sl,hp⟩ fps p K =
  (match sl.getD t .undef with
   |.bool b=>gs (b==w) ⟨sl,hp⟩ (goD C ⟨d,op,some (t,w),id,fp,chk⟩ rest fps p K) (skD C ⟨d,op,some (t,w),id,fp,chk⟩ rest fps p K)
   |.undef=>Hl C rest (St.put ⟨sl,hp⟩ d .undef) fps p K
   |_=>False):=q_z
def Ath:goD C o rest fps p K ⟨sl,hp⟩=(clear o ⟨sl,hp⟩ fps/\Fj C o ⟨sl,hp⟩ (okD C o rest ⟨sl,hp⟩ fps p K)):=q_z
def At9:skD C o rest fps p K ⟨sl,hp⟩=Hl C rest (St.put ⟨sl,hp⟩ o.d .undef) fps p K:=q_z
def Ast{d:Option Nat}{g:Option (Nat×Bool)}{fp:Bool}{chk:List Nat}{f:Nat}{args:List AX}:Fj C ⟨d,.call f args,g,id,fp,chk⟩ ⟨sl,hp⟩ KD=(match Fg hp (args.map (St.get ⟨sl,hp⟩)) with
  |some (vs,h)=>Ab4 C f vs (All sl h d KD)
  |none=>False):=q_z
def As7{d:Option Nat}{g:Option (Nat×Bool)}{fp:Bool}{chk:List Nat}{c x y:AX}:Fj C ⟨d,.pick c x y,g,id,fp,chk⟩ ⟨sl,hp⟩ KD=(match St.get ⟨sl,hp⟩ c with
  |.bool t=>gs t ⟨sl,hp⟩ (pkD ⟨d,.pick c x y,g,id,fp,chk⟩ x KD) (pkD ⟨d,.pick c x y,g,id,fp,chk⟩ y KD)
  |_=>False):=q_z
def Atg{i:Nat}:St.get ⟨sl,hp⟩ (.t i)=sl.getD i .undef:=q_z
def Atf{v:SV}:St.get s (.c v)=v:=q_z
def At0{i:Nat}{v:SV}:St.put ⟨sl,hp⟩ (some i) v=⟨sl.set i v,hp⟩:=q_z
def Atz{v:SV}:St.put ⟨sl,hp⟩ none v=⟨sl,hp⟩:=q_z
def Auf{v:SV}:St.val ⟨sl,hp⟩ (some v)=some { ob:=True,val:=v,hp:=hp }:=q_z
end
def least(p:Nat->Prop):∀n:Nat,∃x,x<=n/\(x=n\/p x)/\∀y,y<x->¬p y:=by
 intro n
 induction n with
 |zero=>exact⟨0,q_ja _,.inl rfl,fun y hy=>by omega⟩
 |succ n ih=>
  obtain⟨x,h1,h2,h3⟩:=ih
  by_cases hp:p x
  ·exact⟨x,by omega,.inr hp,h3⟩
  ·rcases h2 with rfl|h2
   ·refine⟨x+1,q_ja _,.inl rfl,fun y hy=>?_⟩
    by_cases hyx:y=x
    ·subst hyx;exact hp
    ·exact h3 y (by omega)
   ·exact absurd h2 hp
def w64{n:Int}(h:fit n):IntKind.i64.wrap n=n:=by
 unfold fit at h;rw[IntKind.wrap_i64];omega
def lq(S:Nat->St)(n i:Nat)(Q:AE->St->Prop):AE->St->Prop:=fun e s'=>match e with|.normal=>i<n/\Wk s' (S (i+1))|e=>Q e s'
def lq_n{S:Nat->St}{n i:Nat}{Q:AE->St->Prop}{s:St}:lq S n i Q .normal s=(i<n/\Wk s (S (i+1))):=q_z
def lq_e{S:Nat->St}{n i j:Nat}{Q:AE->St->Prop}{s:St}:lq S n i Q (.exit j) s=Q (.exit j) s:=q_z
def lq_r{S:Nat->St}{n i:Nat}{Q:AE->St->Prop}{s:St}:lq S n i Q .ret s=Q .ret s:=q_z
def Nz{C:CT}{b:AC}{Q:AE->St->Prop}(S:Nat->St)(n:Nat)(Jm:∀i,i<=n->vc C b (lq S n i Q) (S i)){s:St}(h0:Wk s (S 0)):vc C (.loop b) Q s:=by
 refine Aft (fun m s=>∃i,i<=n/\m=n-i/\Wk s (S i)) (fun m s hI=>?_) n s ⟨0,Nat.zero_le _,rfl,h0⟩;obtain⟨i,hi,rfl,hw⟩:=hI;refine⟨S i,hw,j6 (fun e s' he=>?_) (Jm i hi)⟩;cases e with
 |normal=>exact⟨n-(i+1),by have:=he.1;omega,i+1,he.1,rfl,he.2⟩
 |exit id=>exact he
 |ret=>exact he
def A2f{α:Type}{l:List α}{z d:α}{i:Nat}(hi:i<l.length):(l.take i++List.replicate (l.length-i) z).set i (l[i]?.getD d)=l.take (i+1)++List.replicate (l.length-(i+1)) z:=by
 rw[q_f hi,q_jz,List.set_append_right _ _ (by simp;omega),List.take_add_one,q_f hi,q_ju];congr 1;rw[show i-(l.take i).length=0 by simp;omega,show l.length-i=(l.length-(i+1))+1 by omega,List.replicate_succ,List.set_cons_zero];rfl
def Aul{cells:List SV}:fill cells []=cells:=rfl
def Auk{z z2:SV}{cells:List SV}{off:Nat}{v:SV}{r:List (Nat×Nat×SV)}:fill (z::z2::cells) ((off,1,v)::r)=fill ((z::z2::cells).set off ((cellsOf v).getD 0 .undef)) r:=by
 simp only[fill,Dz,q_jk];rw[if_neg (by omega),if_pos trivial]
def Aq5{cl:Bool}{n c:Nat}{cells:List SV}:cut cl n true n c cells=.agg cl cells:=by simp[cut]
def Aq1{cl:Bool}{sz n c:Nat}{cells:List SV}:cut cl sz false n c cells=cells.getD c .undef:=by simp[cut]
def A1x{n c:Nat}{cells new:List SV}:Dz n n c cells new=new:=by simp[Dz]
def Abd{sz c:Nat}{cells new:List SV}:Dz (sz+2) 1 c cells new=cells.set c (new.getD 0 .undef):=by simp[Dz]
def hv(i:Int)(a b x y h:Tm):List SV:=.int .i64 i::(tv a++(tv b++(tv x++(tv y++tv h))))
def Amo(t:Tm):tv t=[.int .i64 t.k,.int .i64 t.i,.int .i64 t.j,.int .i64 t.n,.dsl 5 (t.kids.map tv)]:=by cases t;rw[Bp];rfl
section
variable{i:Int}{a b x y h:Tm}
def hv_0:(hv i a b x y h)[0]?=some (.int .i64 i):=rfl
end
def Bm:List SV->List SV->Prop
 |[],[]=>True
 |a::l,b::r=>(a=.J\/a=b)/\Bm l r
 |_,_=>False
def A1w:∀{l r:List SV},Bm l r->l.length=r.length/\∀(i:Nat) (v:SV),l[i]?=some v->v=SV.J\/r[i]?=some v:=by
 intro l
 induction l with
 |nil=>intro r h;cases r with
  |nil=>simp
  |cons b r=>exact h.elim
 |cons a l ih=>
  intro r h;cases r with
  |nil=>exact h.elim
  |cons b r=>
   obtain⟨h1,h2⟩:=ih h.2;refine⟨by simp[h1],fun i v hv=>?_⟩;cases i with
   |zero=>
    simp at hv;subst hv;rcases h.1 with h|h
    ·exact .inl h
    ·exact .inr (by simp[h])
   |succ i=>simpa using h2 i v (by simpa using hv)
def Bv{l r:List SV}{hp:List Ob}(h:Bm l r):Wk ⟨r,hp⟩ ⟨l,hp⟩:=by
 obtain⟨h1,h2⟩:=A1w h;exact .slots ⟨r,hp⟩ l h1 h2
def Fx{l r:List SV}{hp hq:List Ob}(n:Nat)(h:Bm l r)(hn:hq.take n=hp)(h1:∀v∈l,Dm n v=true)(h2:∀ob∈hp,ob.box=true->ob.cl=false->∀r∈ob.els,∀x∈r,Dm n x=true)(h3:(gOf hq).isSome=true->0<n:=by simp[gOf,gOb])(h4:∀ob∈hq.drop n,ob.gen<777:=by simp):Wk ⟨r,hq⟩ ⟨l,hp⟩:=by
 subst hn;exact .trans (Bv h) (.trunc ⟨l,hq⟩ n h3 h1 h2 h4)
end Go.Proofs.YtgfehkhcmnfpaaaGreatDoor.Abs
