import Derived.Test.YtgfehkhcmnfpaaaGreatDoorVAby
set_option linter.all false
set_option maxRecDepth 20000
set_option maxHeartbeats 4000000
namespace Go.Proofs.YtgfehkhcmnfpaaaGreatDoor.Abs
open Go Go.RowKit
def jk2(l:List SV):List SV:=.J::.J::l
def Akw(l:List SV):jk2 l=.J::.J::l:=q_z
def jk4(l:List SV):List SV:=jk2 (jk2 l)
def Aky(l:List SV):jk4 l=jk2 (jk2 l):=q_z
def jk8(l:List SV):List SV:=jk4 (jk4 l)
def Akz(l:List SV):jk8 l=jk4 (jk4 l):=q_z
def Fa(l:List SV):List SV:=jk8 (jk8 l)
def Akv(l:List SV):Fa l=jk8 (jk8 l):=q_z
def Fb(l:List SV):List SV:=Fa (Fa l)
def Akx(l:List SV):Fb l=Fa (Fa l):=q_z
attribute [go_sem] Akw Aky Akz Akv Akx
attribute [simp] Akw Aky Akz Akv Akx
inductive Tm where
 |mk (k i j n:Int) (kids:List Tm)
 deriving Inhabited
namespace Tm
def k:Tm->Int|.mk k _ _ _ _=>k
def i:Tm->Int|.mk _ i _ _ _=>i
def j:Tm->Int|.mk _ _ j _ _=>j
def n:Tm->Int|.mk _ _ _ n _=>n
def kids:Tm->List Tm|.mk _ _ _ _ l=>l
end Tm
def Tm.ind{p:Tm->Prop}(h:∀k i j n l,(∀t∈l,p t)->p (.mk k i j n l)):∀t,p t:=by
 intro t;exact Tm.rec (motive_1:=p) (motive_2:=fun l=>∀t∈l,p t) (fun k i j n l ih=>h k i j n l ih) (fun t ht=>by cases ht) (fun t l h1 h2 u hu=>by
  rcases q_kb.1 hu with rfl|hu
  ·exact h1
  ·exact h2 u hu) t
def tv:Tm->List SV
 |.mk k i j n l=>[.int .i64 k,.int .i64 i,.int .i64 j,.int .i64 n,.dsl 5 (l.map tv)]
def Bp(k i j n:Int)(l:List Tm):tv (.mk k i j n l)=[.int .i64 k,.int .i64 i,.int .i64 j,.int .i64 n,.dsl 5 (l.map tv)]:=by rw[tv]
def Bz(t:Tm):(tv t).length=5:=by cases t;rw[Bp];rfl
def fit(n:Int):Prop:=-9223372036854775808<=n/\n<=9223372036854775807
inductive TOk:Tm->Prop
 |mk (k i j n:Int) (l:List Tm):fit k->fit i->fit j->fit n->l.length*56<=140737488355328->(∀t∈l,TOk t)->TOk (.mk k i j n l)
def Se(P:Program)(t:TypeId):Option (List TypeId):=
 match P.underlying t with
 |some (.struct fs)=>some (fs.toList.map (·.type))
 |_=>none
section
variable{P:Program}
def Wu{t:TypeId}{svs:List SV}(hu:P.underlying t=some (.int .i64))(h:Gf P t svs):∃n,svs=[.int .i64 n]/\fit n:=by
 cases h with
 |int _ k n h1 h2=>
  rw[hu] at h1;cases h1;refine⟨n,rfl,?_⟩;simp only[Lit.wf,q_jl,q_jt] at h2;unfold fit;have e1:IntKind.i64.min=-9223372036854775808:=by decide
  have e2:IntKind.i64.max=9223372036854775807:=by decide
  omega
 |bool _ _ h1=>rw[hu] at h1;cases h1
 |float _ _ _ h1=>rw[hu] at h1;cases h1
 |str _ _ h1=>rw[hu] at h1;cases h1
 |slice _ _ _ h1=>rw[hu] at h1;cases h1
 |struct _ _ _ h1=>rw[hu] at h1;cases h1
def A4o{t:TypeId}{svs:List SV}(hu:P.underlying t=some .bool)(h:Gf P t svs):∃b,svs=[.bool b]:=by
 cases h with
 |bool _ b h1=>exact⟨b,rfl⟩
 |int _ _ _ h1=>rw[hu] at h1;cases h1
 |float _ _ _ h1=>rw[hu] at h1;cases h1
 |str _ _ h1=>rw[hu] at h1;cases h1
 |slice _ _ _ h1=>rw[hu] at h1;cases h1
 |struct _ _ _ h1=>rw[hu] at h1;cases h1
def Am7{t:TypeId}{ts:List TypeId}{svs:List SV}(hu:Se P t=some ts)(h:Gf P t svs):∃parts:GV,parts.length=ts.length/\(∀(i:Nat) u p,ts[i]?=some u->parts[i]?=some p->Gf P u p)/\svs=parts.flatten:=by
 have Dv:∀d,P.underlying t=some d->(∀fs,d≠.struct fs)->False:=fun d hd hn=>by
  unfold Se at hu;rw[hd] at hu;cases d<;>first|(exact hn _ rfl)|(cases hu)
 cases h with
 |int _ _ _ h1=>exact (Dv _ h1 (by simp)).elim
 |bool _ _ h1=>exact (Dv _ h1 (by simp)).elim
 |float _ _ _ h1=>exact (Dv _ h1 (by simp)).elim
 |str _ _ h1=>exact (Dv _ h1 (by simp)).elim
 |slice _ _ _ h1=>exact (Dv _ h1 (by simp)).elim
 |struct _ fs parts h1 h2 h3=>
  simp only[Se,h1,q_b] at hu;subst hu;refine⟨parts,by rw[h2];simp,fun i u p hu hp=>?_,rfl⟩;simp only[q_ji,q_e] at hu;obtain⟨f,hf,rfl⟩:=hu;exact h3 i f p hf hp
def A4r{t e:TypeId}{svs:List SV}(hu:Ls P t=some e)(h:Gf P t svs):∃l,svs=[.dsl (P.cellsOf e) l]/\l.length*P.bytesOf e<=reachBytes/\∀r∈l,Gf P e r:=by
 have Dv:∀d,P.underlying t=some d->(∀e,d≠.slice e)->False:=fun d hd hn=>by
  unfold Ls at hu;rw[hd] at hu;cases d<;>first|(exact hn _ rfl)|(cases hu)
 cases h with
 |int _ _ _ h1=>exact (Dv _ h1 (by simp)).elim
 |bool _ _ h1=>exact (Dv _ h1 (by simp)).elim
 |float _ _ _ h1=>exact (Dv _ h1 (by simp)).elim
 |str _ _ h1=>exact (Dv _ h1 (by simp)).elim
 |struct _ _ _ h1=>exact (Dv _ h1 (by simp)).elim
 |slice _ e' l h1 h2 h3=>
  simp only[Ls,h1,q_b] at hu;subst hu;exact⟨l,rfl,h2,h3⟩
def Ali{X:Type}{f:X->List SV}{p:X->Prop}:∀{l:GV},(∀r∈l,∃x,p x/\r=f x)->∃xs:List X,l=xs.map f/\∀x∈xs,p x:=by
 intro l
 induction l with
 |nil=>intro _;exact⟨[],rfl,by simp⟩
 |cons r l ih=>
  intro h;obtain⟨x,hx,rfl⟩:=h r List.mem_cons_self;obtain⟨xs,rfl,Ic⟩:=ih (fun r hr=>h r (List.mem_cons_of_mem _ hr));exact⟨x::xs,rfl,fun y hy=>by rcases q_kb.1 hy with rfl|hy;exact hx;exact Ic y hy⟩
structure TmT(P:Program)(T L I:TypeId):Prop where
 t:Se P T=some [I,I,I,I,L]
 l:Ls P L=some T
 i:P.underlying I=some (.int .i64)
 c:P.cellsOf T=5
 b:P.bytesOf T=56
def Wv{T L I:TypeId}(hT:TmT P T L I){t:TypeId}{svs:List SV}(h:Gf P t svs):(t=T->∃tm,TOk tm/\svs=tv tm)/\(t=L->∃l:List Tm,(∀x∈l,TOk x)/\l.length*56<=140737488355328/\svs=[.dsl 5 (l.map tv)]):=by
 have h0:=h;have uT:∃fs,P.underlying T=some (.struct fs):=by
  have:=hT.t;unfold Se at this;split at this
  ·rename_i fs Mt;exact⟨fs,Mt⟩
  ·cases this
 have uL:P.underlying L=some (.slice T):=by
  have:=hT.l;unfold Ls at this;split at this
  ·rename_i e he;cases this;exact he
  ·cases this
 obtain⟨fs0,uT⟩:=uT
 induction h with
 |int t _ _ h1=>exact⟨fun e=>(by subst e;rw[uT] at h1;cases h1),fun e=>(by subst e;rw[uL] at h1;cases h1)⟩
 |bool t _ h1=>exact⟨fun e=>(by subst e;rw[uT] at h1;cases h1),fun e=>(by subst e;rw[uL] at h1;cases h1)⟩
 |float t _ _ h1=>exact⟨fun e=>(by subst e;rw[uT] at h1;cases h1),fun e=>(by subst e;rw[uL] at h1;cases h1)⟩
 |str t _ h1=>exact⟨fun e=>(by subst e;rw[uT] at h1;cases h1),fun e=>(by subst e;rw[uL] at h1;cases h1)⟩
 |slice t e l h1 h2 h3 ih=>
  refine⟨fun e=>(by subst e;rw[uT] at h1;cases h1),fun he=>?_⟩;subst he;rw[uL] at h1;cases h1;obtain⟨xs,rfl,Ic⟩:=Ali (f:=tv) (p:=TOk) (l:=l) (fun r hr=>(ih r hr (h3 r hr)).1 rfl);refine⟨xs,Ic,?_,by rw[hT.c]⟩;rw[hT.b,q_g] at h2;exact q_ko h2 (by decide)
 |struct t fs parts h1 h2 h3 ih=>
  refine⟨fun he=>?_,fun he=>(by subst he;rw[uL] at h1;cases h1)⟩;subst he;have Oy:=hT.t;simp only[Se,h1,q_b] at Oy;have hl5:fs.toList.length=5:=by have:=congrArg List.length Oy;simpa using this
  match parts,h2.trans hl5,Oy with
  |[p0,p1,p2,p3,p4],_,Oy=>
   match Hp:fs.toList,hl5 with
   |[f0,f1,f2,f3,f4],_=>
    rw[Hp] at Oy h3 ih;simp only[q_h,q_i,List.cons.injEq,and_true] at Oy;obtain⟨e0,e1,e2,e3,e4⟩:=Oy;have a0:=h3 0 f0 p0 rfl rfl;have a1:=h3 1 f1 p1 rfl rfl;have a2:=h3 2 f2 p2 rfl rfl;have a3:=h3 3 f3 p3 rfl rfl;have a4:=h3 4 f4 p4 rfl rfl;rw[e0] at a0;rw[e1] at a1;rw[e2] at a2;rw[e3] at a3;obtain⟨k,rfl,fk⟩:=Wu hT.i a0;obtain⟨i,rfl,fi⟩:=Wu hT.i a1;obtain⟨j,rfl,fj⟩:=Wu hT.i a2;obtain⟨n,rfl,fn⟩:=Wu hT.i a3;obtain⟨l,hl,hb,rfl⟩:=(ih 4 f4 p4 rfl rfl a4).2 e4;exact⟨.mk k i j n l,.mk k i j n l fk fi fj fn hb hl,by rw[Bp];rfl⟩
end
inductive Lec:SV->SV->Prop
 |refl (v:SV):Lec v v
 |nils (sz:Nat):Lec .nils (.dsl sz [])
inductive Les:List SV->List SV->Prop
 |nil:Les [] []
 |cons (a b:SV) (l r:List SV):Lec a b->Les l r->Les (a::l) (b::r)
inductive Lev:SV->SV->Prop
 |cell (a b:SV):Lec a b->Lev a b
 |agg (l r:List SV):Les l r->Lev (.agg true l) (.agg true r)
inductive Levs:List SV->List SV->Prop
 |nil:Levs [] []
 |cons (a b:SV) (l r:List SV):Lev a b->Levs l r->Levs (a::l) (b::r)
inductive Le:SV->SV->Prop
 |val (a b:SV):Lev a b->Le a b
 |tup (l r:List SV):Levs l r->Le (.tup l) (.tup r)
def Lec.rep{m:Mem}{v:Value}{a b:SV}(h:Lec a b)(hr:Rep m v a):Rep m v b:=by
 cases h with
 |refl=>exact hr
 |nils sz=>cases hr;exact .dsl0 _ _ _
def Les.get{l r:List SV}(h:Les l r):l.length=r.length/\∀(j:Nat) b,r[j]?=some b->∃a,l[j]?=some a/\Lec a b:=by
 induction h with
 |nil=>simp
 |cons a b l r h1 _ ih=>
  refine⟨by simp[ih.1],fun j c hc=>?_⟩;cases j with
  |zero=>simp at hc;subst hc;exact⟨a,rfl,h1⟩
  |succ j=>exact ih.2 j c (by simpa using hc)
def Lev.rep{m:Mem}{v:Value}{a b:SV}(h:Lev a b)(hr:Rep m v a):Rep m v b:=by
 cases h with
 |cell _ _ h=>exact h.rep hr
 |agg l r h=>
  obtain⟨h1,h2⟩:=h.get;cases hr with
  |agg vs _ g0 g1 g2=>
   refine .agg vs r g0 (by omega) (fun j v x hv hx=>?_);obtain⟨a,ha,hle⟩:=h2 j x hx;exact hle.rep (g2 j v a hv ha)
def Levs.get{l r:List SV}(h:Levs l r):l.length=r.length/\∀(j:Nat) b,r[j]?=some b->∃a,l[j]?=some a/\Lev a b:=by
 induction h with
 |nil=>simp
 |cons a b l r h1 _ ih=>
  refine⟨by simp[ih.1],fun j c hc=>?_⟩;cases j with
  |zero=>simp at hc;subst hc;exact⟨a,rfl,h1⟩
  |succ j=>exact ih.2 j c (by simpa using hc)
def Le.rep{m:Mem}{v:Value}{a b:SV}(h:Le a b)(hr:Rep m v a):Rep m v b:=by
 cases h with
 |val _ _ h=>exact h.rep hr
 |tup l r h=>
  obtain⟨h1,h2⟩:=h.get;cases hr with
  |tup vs _ g1 g2=>
   refine .tup vs r (by omega) (fun j v x hv hx=>?_);obtain⟨a,ha,hle⟩:=h2 j x hx;exact hle.rep (g2 j v a hv ha)
def Contract.weaken{P:Program}{f:Nat}{args:List SV}{r r':SV}(h:Contract P f args r)(hl:Le r r'):Contract P f args r':=by
 intro m w vs h1 h2 h3;refine Calls.mono (h m w vs h1 h2 h3) (fun e w' he=>?_);obtain⟨v,m',a1,a2,a3⟩:=he;exact⟨v,m',a1,hl.rep a2,a3⟩
def Les.refl:∀l:List SV,Les l l
 |[]=>.nil
 |a::l=>.cons a a l l (.refl a) (Les.refl l)
def Tx(k i j n:Int):Le (.agg true [.int .i64 k,.int .i64 i,.int .i64 j,.int .i64 n,.nils]) (.agg true (tv (.mk k i j n []))):=by
 rw[Bp];exact .val _ _ (.agg _ _ (.cons _ _ _ _ (.refl _) (.cons _ _ _ _ (.refl _) (.cons _ _ _ _ (.refl _) (.cons _ _ _ _ (.refl _) (.cons _ _ _ _ (.nils 5) .nil))))))
def A4y{C:CT}{o:Cd}{s:St}{K K':St->Prop}(hK:∀s,K s->K' s)(h:vc1 C o s K):vc1 C o s K':=by
 obtain⟨d,op,g,id,fp,chk⟩:=o;cases op with
 |call f args=>
  simp only[vc1] at h |-;split
  ·rename_i vs hh hcl;simp only[hcl] at h;obtain⟨r,h1,h2⟩:=h;exact⟨r,h1,hK _ h2⟩
  ·rename_i hcl;simp only[hcl] at h
 |callv fs x args=>
  simp only[vc1] at h |-;split
  ·rename_i f hf;simp only[hf] at h;split
   ·rename_i Dz;simp only[Dz,if_true] at h;split
    ·rename_i vs hh hcl;simp only[hcl] at h;obtain⟨r,h1,h2⟩:=h;exact⟨r,h1,hK _ h2⟩
    ·rename_i hcl;simp only[hcl] at h
   ·rename_i Dz;rw[if_neg Dz] at h;exact h
  ·rename_i hf;split at h
   ·rename_i f Vp;exact absurd Vp (hf f)
   ·exact h
 |pick c a b=>
  simp only[vc1] at h |-;split
  ·rename_i t ht;simp only[ht] at h;exact⟨fun h1=>hK _ (h.1 h1),fun h1=>hK _ (h.2 h1)⟩
  ·rename_i ht;split at h
   ·rename_i t Kt;exact absurd Kt (ht t)
   ·exact h
 |hcall f args=>
  simp only[vc1] at h |-;split
  ·rename_i vs hh hcl;simp only[hcl] at h;split
   ·rename_i G hG;simp only[hG] at h;obtain⟨T,h1,h2⟩:=h;refine⟨T,h1,fun out G' ho=>?_⟩;have h3:=h2 out G' ho;cases out with
    |ret r=>exact hK _ h3
    |pan x=>exact h3
   ·rename_i hG;simp only[hG] at h
  ·rename_i hcl;simp only[hcl] at h
 |pan x=>exact h
 |bin kd op x y=>
  simp only[vc1] at h |-;split
  ·rename_i va vb hc;simp only[hc] at h;exact⟨fun hb=>hK _ (h.1 hb),hK _ h.2⟩
  ·rename_i hc;simp only[hc] at h;split
   ·rename_i e he;simp only[he] at h;exact⟨h.1,fun ha=>hK _ (h.2 ha)⟩
   ·rename_i he;simp only[he] at h
 |_=>
  simp only[vc1] at h |-;split
  ·rename_i e he;simp only[he] at h;exact⟨h.1,fun ha=>hK _ (h.2 ha)⟩
  ·rename_i he;simp only[he] at h
def Amr{C:CT}{o:Cd}{s:St}{K:St->Prop->Prop}(h:Et C o s K){K':St->Prop->Prop}(hK:∀s q,K s q->K' s q):Et C o s K':=by
 obtain⟨d,op,g,id,fp,chk⟩:=o;cases op with
 |call f args=>
  simp only[Et] at h |-;split
  ·rename_i vs hh hcl;simp only[hcl] at h;obtain⟨r,h1,h2⟩:=h;exact⟨r,h1,hK _ _ h2⟩
  ·rename_i hcl;simp only[hcl] at h
 |callv fs x args=>
  simp only[Et] at h |-;split
  ·rename_i f hf;simp only[hf] at h;split
   ·rename_i Dz;simp only[Dz,if_true] at h;split
    ·rename_i vs hh hcl;simp only[hcl] at h;obtain⟨r,h1,h2⟩:=h;exact⟨r,h1,hK _ _ h2⟩
    ·rename_i hcl;simp only[hcl] at h
   ·rename_i Dz;rw[if_neg Dz] at h;exact h
  ·rename_i hf;split at h
   ·rename_i f Vp;exact absurd Vp (hf f)
   ·exact h
 |pick c a b=>
  simp only[Et] at h |-;split
  ·rename_i t ht;simp only[ht] at h;exact⟨fun h1=>hK _ _ (h.1 h1),fun h1=>hK _ _ (h.2 h1)⟩
  ·rename_i ht;split at h
   ·rename_i t Kt;exact absurd Kt (ht t)
   ·exact h
 |hcall f args=>
  simp only[Et] at h |-;split
  ·rename_i vs hh hcl;simp only[hcl] at h;split
   ·rename_i G hG;simp only[hG] at h;obtain⟨out,G',h1,h2⟩:=h;refine⟨out,G',h1,?_⟩;cases out with
    |ret r=>exact hK _ _ h2
    |pan x=>exact h2
   ·rename_i hG;simp only[hG] at h
  ·rename_i hcl;simp only[hcl] at h
 |pan x=>exact h
 |_=>
  simp only[Et] at h |-;split
  ·rename_i e he;simp only[he] at h;exact⟨h.1,hK _ _ h.2⟩
  ·rename_i he;simp only[he] at h
def A5d{C:CT}:∀{l:List Cd} {s:St} {K K':St->Prop},(∀s,K s->K' s)->Ex C l s K->Ex C l s K':=by
 intro l
 induction l with
 |nil=>intro s K K' h hv;exact h s hv
 |cons o l ih=>
  intro s K K' h hv;have one:∀{s:St},vc1 C o s (fun s'=>Ex C l s' K)->vc1 C o s (fun s'=>Ex C l s' K'):=by
   intro s hv;exact A4y (fun s=>ih h) hv
  simp only[Ex] at hv |-;split at hv
  ·exact one hv
  ·split at hv
   ·exact⟨fun hb=>one (hv.1 hb),fun hb=>ih h (hv.2 hb)⟩
   ·exact ih h hv
   ·exact hv.elim
def A4z{C:CT}:∀{l:List Cd} {s:St} {fps:List (Nat×AOp×St)} {p:Prop} {K K':St->Prop},(∀s,K s->K' s)->Gu C l s fps p K->Gu C l s fps p K':=by
 intro l
 induction l with
 |nil=>intro s fps p K K' h hv hp;exact h s (hv hp)
 |cons o l ih=>
  intro s fps p K K' h hv;simp only[Gu] at hv |-;split at hv
  ·exact⟨hv.1,Amr hv.2 (fun s q hk=>⟨hk.1,ih h hk.2⟩)⟩
  ·split at hv
   ·exact⟨fun hb=>⟨(hv.1 hb).1,Amr (hv.1 hb).2 (fun s q hk=>⟨hk.1,ih h hk.2⟩)⟩,fun hb=>ih h (hv.2 hb)⟩
   ·exact ih h hv
   ·exact hv.elim
def A5b{body:(AE->St->Prop)->St->Prop}(hb:∀(Q Q':AE->St->Prop) (s:St),(∀e s,Q e s->Q' e s)->body Q s->body Q' s){Q Q':AE->St->Prop}(h:∀e s,Q e s->Q' e s):∀{n:Nat} {s:St},Pj body Q n s->Pj body Q' n s:=by
 intro n
 induction n with
 |zero=>intro s h;exact h
 |succ n ih=>
  intro s hv;obtain⟨s0,h1,h2⟩:=hv;refine⟨s0,h1,hb _ _ _ (fun e s he=>?_) h2⟩;cases e with
  |normal=>exact ih he
  |exit id=>exact h _ _ he
  |ret=>exact h _ _ he
def j0{C:CT}:∀{c:AC} {Q Q':AE->St->Prop} {s:St},(∀e s,Q e s->Q' e s)->vc C c Q s->vc C c Q' s:=by
 intro c
 induction c with
 |skip=>intro Q Q' s h hv;exact h _ _ hv
 |reg ops draw=>
  intro Q Q' s h hv;simp only[vc] at hv |-;cases draw with
  |true=>exact A4z (h .normal) hv
  |false=>exact A5d (h .normal) hv
 |seq a b iha ihb=>
  intro Q Q' s h hv;simp only[vc] at hv |-;refine iha (fun e s he=>?_) hv;cases e with
  |normal=>exact ihb h he
  |exit id=>exact h _ _ he
  |ret=>exact h _ _ he
 |cut a b iha ihb=>
  intro Q Q' s h hv;simp only[vc] at hv |-;refine iha (fun e s he=>?_) hv;cases e with
  |normal=>exact ihb h he
  |exit id=>exact h _ _ he
  |ret=>exact h _ _ he
 |cond c a b iha ihb=>
  intro Q Q' s h hv;simp only[vc] at hv |-;split at hv
  ·exact⟨fun ht=>iha h (hv.1 ht),fun ht=>ihb h (hv.2 ht)⟩
  ·exact hv.elim
 |blk id b ih=>
  intro Q Q' s h hv;simp only[vc] at hv |-;refine ih (fun e s he=>?_) hv;cases e with
  |normal=>exact h _ _ he
  |exit j=>
   simp only at he |-;split at he
   ·rename_i hj;rw[if_pos hj];exact h _ _ he
   ·rename_i hj;rw[if_neg hj];exact h _ _ he
  |ret=>exact h _ _ he
 |loop b ih=>
  intro Q Q' s h hv;obtain⟨n,hv⟩:=hv;exact⟨n,A5b (body:=fun Q' s'=>vc C b Q' s') (fun Q Q' s h h2=>ih h h2) h hv⟩
 |exit id=>intro Q Q' s h hv;exact h _ _ hv
 |ret=>intro Q Q' s h hv;exact h _ _ hv
def Agd{C:CT}{b:AC}{Q:AE->St->Prop}(I:Nat->St->Prop)(Ox:∀m s,I m s->∃s0,Wk s s0/\vc C b (fun e s'=>match e with|.normal=>∃m',m'<m/\I m' s'|e=>Q e s') s0) :
  ∀(m:Nat) (s:St),I m s->vc C (.loop b) Q s:=by
 have key:∀n m s,m<n->I m s->Pj (fun Q' s'=>vc C b Q' s') Q n s:=by
  intro n
  induction n with
  |zero=>intro m s hm;omega
  |succ n ih=>
   intro m s hm hI;obtain⟨s0,h1,h2⟩:=Ox m s hI;refine⟨s0,h1,j0 (fun e s' he=>?_) h2⟩;cases e with
   |normal=>
    obtain⟨m',hm',hI'⟩:=he;exact ih m' s' (by omega) hI'
   |exit id=>exact he
   |ret=>exact he
 intro m s hI;exact⟨m+1,key (m+1) m s (by omega) hI⟩
def sq(C:CT)(b:AC)(Q:AE->St->Prop):AE->St->Prop:=fun e s'=>match e with|.normal=>vc C b Q s'|e=>Q e s'
def bk(id:Nat)(Q:AE->St->Prop):AE->St->Prop:=fun e s'=>match e with|.exit j=>if j=id then Q .normal s' else Q (.exit j) s'|e=>Q e s'
def ok(C:CT)(rest:List Cd)(K:St->Prop)(s:St):Prop:=Ex C rest s K
def okD(C:CT)(o:Cd)(rest:List Cd)(s0:St)(fps:List (Nat×AOp×St))(p:Prop)(K:St->Prop)(s:St)(q:Prop):Prop:=Qw o s0 fps s/\Gu C rest s (if o.fp then (o.id,o.op,s0)::fps else fps) (p/\q) K
def goG(C:CT)(o:Cd)(rest:List Cd)(K:St->Prop)(s:St):Prop:=vc1 C o s (ok C rest K)
def skG(C:CT)(o:Cd)(rest:List Cd)(K:St->Prop)(s:St):Prop:=Ex C rest (s.put o.d .undef) K
def goD(C:CT)(o:Cd)(rest:List Cd)(fps:List (Nat×AOp×St))(p:Prop)(K:St->Prop)(s:St):Prop:=clear o s fps/\Et C o s (okD C o rest s fps p K)
def skD(C:CT)(o:Cd)(rest:List Cd)(fps:List (Nat×AOp×St))(p:Prop)(K:St->Prop)(s:St):Prop:=Gu C rest (s.put o.d .undef) fps p K
def pk(o:Cd)(x:AX)(K:St->Prop)(s:St):Prop:=K (s.put o.d (s.get x))
def pkD(o:Cd)(x:AX)(K:St->Prop->Prop)(s:St):Prop:=K (s.put o.d (s.get x)) True
def Ach(C:CT)(f:Nat)(vs:List SV)(P:SV->Prop):Prop:=∃r,C.p f vs r/\P r
def Ae{Q:Program}{X:SV->GV->Prop}{f:Nat}{vs:List SV}{P:SV->Prop}{r:SV}(h:Contract Q f vs r)(hP:P r):Ach (Eh Q X) f vs P:=⟨r,h,hP⟩
def Acg(C:CT)(t:Bool)(f:Nat)(G:GV)(vs:List SV)(b:Prop)(P:SV->GV->Prop):Prop:=
 match t with
 |true=>∃T,C.q f G vs T/\∀out G',T out G'->(match out with|.ret r=>P r G'|.pan x=>b/\C.x x G')
 |false=>∃out G',C.h f G vs out G'/\(match out with|.ret r=>P r G'|.pan x=>b/\C.x x G')
def Ai{Q:Program}{X:SV->GV->Prop}{t:Bool}{f:Nat}{G G':GV}{vs:List SV}{b:Prop}{P:SV->GV->Prop}{r:SV}(h:HContract Q f G vs (.ret r) G')(hP:P r G'):Acg (Eh Q X) t f G vs b P:=by
 cases t with
 |false=>exact⟨.ret r,G',h,hP⟩
 |true=>exact⟨_,h.q,fun out G1 ho=>by obtain⟨rfl,rfl⟩:=ho;exact hP⟩
def Aly(sl:List SV)(h:List Ob)(d:Option Nat)(K:St->Prop)(r:SV)(G':GV):Prop:=K (St.put ⟨sl,h.set 0 (gOb G')⟩ d r)
def Alz(sl:List SV)(h:List Ob)(d:Option Nat)(K:St->Prop->Prop)(r:SV)(G':GV):Prop:=K (St.put ⟨sl,h.set 0 (gOb G')⟩ d r) True
def A0z{sl:List SV}{h:List Ob}{d:Option Nat}{K:St->Prop}{r:SV}{G':GV}:Aly sl h d K r G'=K (St.put ⟨sl,h.set 0 (gOb G')⟩ d r):=q_z
def A0y{sl:List SV}{h:List Ob}{d:Option Nat}{K:St->Prop->Prop}{r:SV}{G':GV}:Alz sl h d K r G'=K (St.put ⟨sl,h.set 0 (gOb G')⟩ d r) True:=q_z
def Avw{G:GV}{hp:List Ob}:gOf (gOb G::hp)=some G:=q_z
def rtG(res:List AR)(out:HOut)(G':GV):AE->St->Prop:=fun e s=>match e with|.exit _=>False|_=>match out with|.ret r=>Oj res r G' s|.pan _=>False
def Al0(sl:List SV)(h:List Ob)(d:Option Nat)(K:St->Prop)(r:SV):Prop:=K (St.put ⟨sl,h⟩ d r)
def Al1(sl:List SV)(h:List Ob)(d:Option Nat)(K:St->Prop->Prop)(r:SV):Prop:=K (St.put ⟨sl,h⟩ d r) True
def A1b{sl:List SV}{h:List Ob}{d:Option Nat}{K:St->Prop}{r:SV}:Al0 sl h d K r=K (St.put ⟨sl,h⟩ d r):=q_z
def A1a{sl:List SV}{h:List Ob}{d:Option Nat}{K:St->Prop->Prop}{r:SV}:Al1 sl h d K r=K (St.put ⟨sl,h⟩ d r) True:=q_z
def rt(res:List AR)(r:SV):AE->St->Prop:=fun e s=>match e with|.exit _=>False|_=>Mf res r s
section
variable{C:CT}{a b:AC}{Q:AE->St->Prop}{sl:List SV}{hp:List Ob}{s:St}{K:St->Prop}{KD:St->Prop->Prop}{o:Cd}{rest:List Cd}{fps:List (Nat×AOp×St)}{p q:Prop}{id j:Nat}
def ev_F{n:Nat}{res:List AR}{args:List SV}{r:SV}:vcF C { ntmps:=n,res:=res,body:=b } args r=vc C b (rt res r) ⟨args++List.replicate (n-args.length) .undef,[]⟩:=q_z
def rt_n{res:List AR}{r:SV}:rt res r .normal s=Mf res r s:=q_z
def rt_r{res:List AR}{r:SV}:rt res r .ret s=Mf res r s:=q_z
def Au3{res:List AR}{r:SV}:Mf res r ⟨sl,hp⟩=(match Nb ⟨sl,hp⟩ res with
 |some (p,vs,_)=>p/\r=(match vs with|[v]=>v|vs=>.tup vs)
 |none=>False):=q_z
def sq_n:sq C b Q .normal s=vc C b Q s:=q_z
def sq_e:sq C b Q (.exit j) s=Q (.exit j) s:=q_z
def sq_r:sq C b Q .ret s=Q .ret s:=q_z
def bk_n:bk id Q .normal s=Q .normal s:=q_z
def bk_e:bk id Q (.exit j) s=if j=id then Q .normal s else Q (.exit j) s:=q_z
def bk_r:bk id Q .ret s=Q .ret s:=q_z
def Ava:vc C .skip Q s=Q .normal s:=q_z
def Au2:vc C .ret Q s=Q .ret s:=q_z
def Aub:vc C (.exit id) Q s=Q (.exit id) s:=q_z
def Au0{ops:List Cd}:vc C (.reg ops false) Q ⟨sl,hp⟩=Ex C ops ⟨sl,hp⟩ (Q .normal):=by simp[vc]
def Au1{ops:List Cd}:vc C (.reg ops true) Q ⟨sl,hp⟩=Gu C ops ⟨sl,hp⟩ [] True (Q .normal):=by simp[vc]
def Au6:vc C (.seq a b) Q ⟨sl,hp⟩=vc C a (sq C b Q) ⟨sl,hp⟩:=q_z
def Atn:vc C (.cut a b) Q ⟨sl,hp⟩=vc C a (sq C b Q) ⟨sl,hp⟩:=q_z
def Atd:vc C (.blk id b) Q ⟨sl,hp⟩=vc C b (bk id Q) ⟨sl,hp⟩:=q_z
def Atj{c:AX}:vc C (.cond c a b) Q ⟨sl,hp⟩=(match St.get ⟨sl,hp⟩ c with|.bool t=>gs t ⟨sl,hp⟩ (vc C a Q) (vc C b Q)|_=>False):=q_z
def Ata{n:Nat}{res:List AR}{G G':GV}{args:List SV}{out:HOut}:Anb C { ntmps:=n,res:=res,body:=b } G args out G'=vc C b (rtG res out G') ⟨args++List.replicate (n-args.length) .undef,[gOb G]⟩:=q_z
def A2g{res:List AR}{G':GV}{r:SV}:rtG res (.ret r) G' .normal s=Oj res r G' s:=q_z
def A2h{res:List AR}{G':GV}{r:SV}:rtG res (.ret r) G' .ret s=Oj res r G' s:=q_z
def Au4{res:List AR}{G':GV}{r:SV}:Oj res r G' ⟨sl,hp⟩=(match Nb ⟨sl,hp⟩ res with
 |some (p,vs,h)=>p/\r=(match vs with|[v]=>v|vs=>.tup vs)/\gOf h=some G'
 |none=>False):=q_z
def Au5{res:List AR}{T:HOut->GV->Prop}:Wo res T ⟨sl,hp⟩=(match Nb ⟨sl,hp⟩ res with
 |some (p,vs,h)=>p/\(match gOf h with
  |some G'=>T (.ret (match vs with|[v]=>v|vs=>.tup vs)) G'
  |none=>False)
 |none=>False):=q_z
def Aur:Ex C [] s K=K s:=q_z
def Aut:ok C rest K s=Ex C rest s K:=q_z
def Atk{d:Option Nat}{op:AOp}{id:Nat}{fp:Bool}{chk:List Nat}:Ex C (⟨d,op,none,id,fp,chk⟩::rest) ⟨sl,hp⟩ K=vc1 C ⟨d,op,none,id,fp,chk⟩ ⟨sl,hp⟩ (ok C rest K):=q_z
def Atl{d:Option Nat}{op:AOp}{t:Nat}{w:Bool}{id:Nat}{fp:Bool}{chk:List Nat}:Ex C (⟨d,op,some (t,w),id,fp,chk⟩::rest) ⟨sl,hp⟩ K =
  (match sl.getD t .undef with
   |.bool b=>gs (b==w) ⟨sl,hp⟩ (goG C ⟨d,op,some (t,w),id,fp,chk⟩ rest K) (skG C ⟨d,op,some (t,w),id,fp,chk⟩ rest K)
   |.undef=>Ex C rest (St.put ⟨sl,hp⟩ d .undef) K
   |_=>False):=q_z
def Auh:goG C o rest K ⟨sl,hp⟩=vc1 C o ⟨sl,hp⟩ (ok C rest K):=q_z
def Au9:skG C o rest K ⟨sl,hp⟩=Ex C rest (St.put ⟨sl,hp⟩ o.d .undef) K:=q_z
def Auw{x:AX}:pk o x K ⟨sl,hp⟩=K (St.put ⟨sl,hp⟩ o.d (St.get ⟨sl,hp⟩ x)):=q_z
def Aux{x:AX}:pkD o x KD ⟨sl,hp⟩=KD (St.put ⟨sl,hp⟩ o.d (St.get ⟨sl,hp⟩ x)) True:=q_z
def Ati{d:Option Nat}{g:Option (Nat×Bool)}{fp:Bool}{chk:List Nat}{f:Nat}{args:List AX}:vc1 C ⟨d,.call f args,g,id,fp,chk⟩ ⟨sl,hp⟩ K=(match Eo hp (args.map (St.get ⟨sl,hp⟩)) with
  |some (vs,h)=>Ach C f vs (Al0 sl h d K)
  |none=>False):=q_z
def Auv{d:Option Nat}{g:Option (Nat×Bool)}{fp:Bool}{chk:List Nat}{c x y:AX}:vc1 C ⟨d,.pick c x y,g,id,fp,chk⟩ ⟨sl,hp⟩ K=(match St.get ⟨sl,hp⟩ c with
  |.bool t=>gs t ⟨sl,hp⟩ (pk ⟨d,.pick c x y,g,id,fp,chk⟩ x K) (pk ⟨d,.pick c x y,g,id,fp,chk⟩ y K)
  |_=>False):=q_z
def Aui{d:Option Nat}{g:Option (Nat×Bool)}{fp:Bool}{chk:List Nat}{f:Nat}{args:List AX}:vc1 C ⟨d,.hcall f args,g,id,fp,chk⟩ ⟨sl,hp⟩ K=(match Eo hp (args.map (St.get ⟨sl,hp⟩)) with
  |some (vs,h)=>(match gOf h with
   |some G=>Acg C true f G vs True (Aly sl h d K)
   |none=>False)
  |none=>False):=by
 show (match Eo hp (args.map (St.get ⟨sl,hp⟩)) with
  |some (vs,h)=>(match gOf h with
   |some G=>∃T,C.q f G vs T/\∀out G',T out G'->(match out with|.ret r=>K (St.put ⟨sl,h.set 0 (gOb G')⟩ d r)|.pan x=>C.x x G')
   |none=>False)
  |none=>False)=_
 cases Eo hp (args.map (St.get ⟨sl,hp⟩)) with
 |none=>rfl
 |some q=>
  obtain⟨vs,h⟩:=q;simp only;cases gOf h with
  |none=>rfl
  |some G=>
   refine propext ⟨fun ⟨T,h1,h2⟩=>⟨T,h1,fun out G' ho=>?_⟩,fun ⟨T,h1,h2⟩=>⟨T,h1,fun out G' ho=>?_⟩⟩
   ·have h3:=h2 out G' ho;cases out with
    |ret r=>exact h3
    |pan x=>exact⟨trivial,h3⟩
   ·have h3:=h2 out G' ho;cases out with
    |ret r=>exact h3
    |pan x=>exact h3.2
def Atx{d:Option Nat}{g:Option (Nat×Bool)}{fp:Bool}{chk:List Nat}{f:Nat}{args:List AX}:Et C ⟨d,.hcall f args,g,id,fp,chk⟩ ⟨sl,hp⟩ KD=(match Eo hp (args.map (St.get ⟨sl,hp⟩)) with
  |some (vs,h)=>(match gOf h with
   |some G=>Acg C false f G vs (chk.contains id=true) (Alz sl h d KD)
   |none=>False)
  |none=>False):=q_z
def Gw(o:Option Eff)(sl:List SV)(d:Option Nat)(K:St->Prop):Prop:=match o with
 |some e=>e.ob/\(e.as->K (St.put ⟨sl,e.hp⟩ d e.val))
 |none=>False
def Is(o:Option Eff)(sl:List SV)(d:Option Nat)(K:St->Prop->Prop):Prop:=match o with
 |some e=>e.ob/\K (St.put ⟨sl,e.hp⟩ d e.val) e.as
 |none=>False
def Avl{e:Eff}{d:Option Nat}:Gw (some e) sl d K=(e.ob/\(e.as->K (St.put ⟨sl,e.hp⟩ d e.val))):=q_z
def Avm{e:Eff}{d:Option Nat}:Is (some e) sl d KD=(e.ob/\KD (St.put ⟨sl,e.hp⟩ d e.val) e.as):=q_z
def Aup{d:Option Nat}{g:Option (Nat×Bool)}{fp:Bool}{chk:List Nat}(x:AX):vc1 C ⟨d,.mv x,g,id,fp,chk⟩ ⟨sl,hp⟩ K=Gw (Bj ⟨sl,hp⟩ (.mv x)) sl d K:=q_z
def At2{d:Option Nat}{g:Option (Nat×Bool)}{fp:Bool}{chk:List Nat}(x:AX):Et C ⟨d,.mv x,g,id,fp,chk⟩ ⟨sl,hp⟩ KD=Is (Bj ⟨sl,hp⟩ (.mv x)) sl d KD:=q_z
def Auq{d:Option Nat}{g:Option (Nat×Bool)}{fp:Bool}{chk:List Nat}(cells:List SV):vc1 C ⟨d,.new cells,g,id,fp,chk⟩ ⟨sl,hp⟩ K=Gw (Bj ⟨sl,hp⟩ (.new cells)) sl d K:=q_z
def At3{d:Option Nat}{g:Option (Nat×Bool)}{fp:Bool}{chk:List Nat}(cells:List SV):Et C ⟨d,.new cells,g,id,fp,chk⟩ ⟨sl,hp⟩ KD=Is (Bj ⟨sl,hp⟩ (.new cells)) sl d KD:=q_z
def Ate{d:Option Nat}{g:Option (Nat×Bool)}{fp:Bool}{chk:List Nat}(x:AX):vc1 C ⟨d,.box x,g,id,fp,chk⟩ ⟨sl,hp⟩ K=Gw (Bj ⟨sl,hp⟩ (.box x)) sl d K:=q_z
def Ath{d:Option Nat}{g:Option (Nat×Bool)}{fp:Bool}{chk:List Nat}(z:List SV)(ps:List (Nat×Nat×AX)):vc1 C ⟨d,.build z ps,g,id,fp,chk⟩ ⟨sl,hp⟩ K=Gw (Bj ⟨sl,hp⟩ (.build z ps)) sl d K:=q_z
def Atr{d:Option Nat}{g:Option (Nat×Bool)}{fp:Bool}{chk:List Nat}(z:List SV)(ps:List (Nat×Nat×AX)):Et C ⟨d,.build z ps,g,id,fp,chk⟩ ⟨sl,hp⟩ KD=Is (Bj ⟨sl,hp⟩ (.build z ps)) sl d KD:=q_z
def Atg{d:Option Nat}{g:Option (Nat×Bool)}{fp:Bool}{chk:List Nat}(sz:Nat)(ps:List AX):vc1 C ⟨d,.bslice sz ps,g,id,fp,chk⟩ ⟨sl,hp⟩ K=Gw (Bj ⟨sl,hp⟩ (.bslice sz ps)) sl d K:=q_z
def Atq{d:Option Nat}{g:Option (Nat×Bool)}{fp:Bool}{chk:List Nat}(sz:Nat)(ps:List AX):Et C ⟨d,.bslice sz ps,g,id,fp,chk⟩ ⟨sl,hp⟩ KD=Is (Bj ⟨sl,hp⟩ (.bslice sz ps)) sl d KD:=q_z
def Aul{d:Option Nat}{g:Option (Nat×Bool)}{fp:Bool}{chk:List Nat}(ag:Bool)(n:Nat)(x:AX):vc1 C ⟨d,.load ag n x,g,id,fp,chk⟩ ⟨sl,hp⟩ K=Gw (Bj ⟨sl,hp⟩ (.load ag n x)) sl d K:=q_z
def At0{d:Option Nat}{g:Option (Nat×Bool)}{fp:Bool}{chk:List Nat}(ag:Bool)(n:Nat)(x:AX):Et C ⟨d,.load ag n x,g,id,fp,chk⟩ ⟨sl,hp⟩ KD=Is (Bj ⟨sl,hp⟩ (.load ag n x)) sl d KD:=q_z
def Avc{d:Option Nat}{g:Option (Nat×Bool)}{fp:Bool}{chk:List Nat}(n:Nat)(x y:AX):vc1 C ⟨d,.store n x y,g,id,fp,chk⟩ ⟨sl,hp⟩ K=Gw (Bj ⟨sl,hp⟩ (.store n x y)) sl d K:=q_z
def At9{d:Option Nat}{g:Option (Nat×Bool)}{fp:Bool}{chk:List Nat}(n:Nat)(x y:AX):Et C ⟨d,.store n x y,g,id,fp,chk⟩ ⟨sl,hp⟩ KD=Is (Bj ⟨sl,hp⟩ (.store n x y)) sl d KD:=q_z
def Aus{d:Option Nat}{g:Option (Nat×Bool)}{fp:Bool}{chk:List Nat}(x:AX):vc1 C ⟨d,.nilck x,g,id,fp,chk⟩ ⟨sl,hp⟩ K=Gw (Bj ⟨sl,hp⟩ (.nilck x)) sl d K:=q_z
def At5{d:Option Nat}{g:Option (Nat×Bool)}{fp:Bool}{chk:List Nat}(x:AX):Et C ⟨d,.nilck x,g,id,fp,chk⟩ ⟨sl,hp⟩ KD=Is (Bj ⟨sl,hp⟩ (.nilck x)) sl d KD:=q_z
def Atc{d:Option Nat}{g:Option (Nat×Bool)}{fp:Bool}{chk:List Nat}(kd:Nat)(op:BinOp)(x y:AX):vc1 C ⟨d,.bin kd op x y,g,id,fp,chk⟩ ⟨sl,hp⟩ K=(match Pn kd op (St.get ⟨sl,hp⟩ x) (St.get ⟨sl,hp⟩ y) with
 |some (va,vb)=>(C.b (St.get ⟨sl,hp⟩ x) (St.get ⟨sl,hp⟩ y)->K (St.put ⟨sl,hp⟩ d va))/\K (St.put ⟨sl,hp⟩ d vb)
 |none=>Gw (Bj ⟨sl,hp⟩ (.bin kd op x y)) sl d K):=q_z
def Atp{d:Option Nat}{g:Option (Nat×Bool)}{fp:Bool}{chk:List Nat}(kd:Nat)(op:BinOp)(x y:AX):Et C ⟨d,.bin kd op x y,g,id,fp,chk⟩ ⟨sl,hp⟩ KD=Is (Bj ⟨sl,hp⟩ (.bin kd op x y)) sl d KD:=q_z
def Avd{d:Option Nat}{g:Option (Nat×Bool)}{fp:Bool}{chk:List Nat}(op:UnOp)(x:AX):vc1 C ⟨d,.un op x,g,id,fp,chk⟩ ⟨sl,hp⟩ K=Gw (Bj ⟨sl,hp⟩ (.un op x)) sl d K:=q_z
def Aua{d:Option Nat}{g:Option (Nat×Bool)}{fp:Bool}{chk:List Nat}(op:UnOp)(x:AX):Et C ⟨d,.un op x,g,id,fp,chk⟩ ⟨sl,hp⟩ KD=Is (Bj ⟨sl,hp⟩ (.un op x)) sl d KD:=q_z
def Atm{d:Option Nat}{g:Option (Nat×Bool)}{fp:Bool}{chk:List Nat}(k:IntKind)(x:AX):vc1 C ⟨d,.conv k x,g,id,fp,chk⟩ ⟨sl,hp⟩ K=Gw (Bj ⟨sl,hp⟩ (.conv k x)) sl d K:=q_z
def Aum{d:Option Nat}{g:Option (Nat×Bool)}{fp:Bool}{chk:List Nat}(sz by_:Nat)(z:List SV)(x y:AX):vc1 C ⟨d,.mk sz by_ z x y,g,id,fp,chk⟩ ⟨sl,hp⟩ K=Gw (Bj ⟨sl,hp⟩ (.mk sz by_ z x y)) sl d K:=q_z
def Avb{d:Option Nat}{g:Option (Nat×Bool)}{fp:Bool}{chk:List Nat}(z:Nat)(x:AX)(lo hi:Option AX):vc1 C ⟨d,.slc z x lo hi,g,id,fp,chk⟩ ⟨sl,hp⟩ K=Gw (Bj ⟨sl,hp⟩ (.slc z x lo hi)) sl d K:=q_z
def At8{d:Option Nat}{g:Option (Nat×Bool)}{fp:Bool}{chk:List Nat}(z:Nat)(x:AX)(lo hi:Option AX):Et C ⟨d,.slc z x lo hi,g,id,fp,chk⟩ ⟨sl,hp⟩ KD=Is (Bj ⟨sl,hp⟩ (.slc z x lo hi)) sl d KD:=q_z
def Aud{d:Option Nat}{g:Option (Nat×Bool)}{fp:Bool}{chk:List Nat}(off:Nat)(x:AX):vc1 C ⟨d,.fad off x,g,id,fp,chk⟩ ⟨sl,hp⟩ K=Gw (Bj ⟨sl,hp⟩ (.fad off x)) sl d K:=q_z
def Atw{d:Option Nat}{g:Option (Nat×Bool)}{fp:Bool}{chk:List Nat}(off:Nat)(x:AX):Et C ⟨d,.fad off x,g,id,fp,chk⟩ ⟨sl,hp⟩ KD=Is (Bj ⟨sl,hp⟩ (.fad off x)) sl d KD:=q_z
def Auj{d:Option Nat}{g:Option (Nat×Bool)}{fp:Bool}{chk:List Nat}(sz:Nat)(x y:AX):vc1 C ⟨d,.iad sz x y,g,id,fp,chk⟩ ⟨sl,hp⟩ K=Gw (Bj ⟨sl,hp⟩ (.iad sz x y)) sl d K:=q_z
def Aty{d:Option Nat}{g:Option (Nat×Bool)}{fp:Bool}{chk:List Nat}(sz:Nat)(x y:AX):Et C ⟨d,.iad sz x y,g,id,fp,chk⟩ ⟨sl,hp⟩ KD=Is (Bj ⟨sl,hp⟩ (.iad sz x y)) sl d KD:=q_z
def Auk{d:Option Nat}{g:Option (Nat×Bool)}{fp:Bool}{chk:List Nat}(st:Bool)(x:AX):vc1 C ⟨d,.len st x,g,id,fp,chk⟩ ⟨sl,hp⟩ K=Gw (Bj ⟨sl,hp⟩ (.len st x)) sl d K:=q_z
def Atz{d:Option Nat}{g:Option (Nat×Bool)}{fp:Bool}{chk:List Nat}(st:Bool)(x:AX):Et C ⟨d,.len st x,g,id,fp,chk⟩ ⟨sl,hp⟩ KD=Is (Bj ⟨sl,hp⟩ (.len st x)) sl d KD:=q_z
def Atb{d:Option Nat}{g:Option (Nat×Bool)}{fp:Bool}{chk:List Nat}(sz by_:Nat)(x y:AX):vc1 C ⟨d,.app sz by_ x y,g,id,fp,chk⟩ ⟨sl,hp⟩ K=Gw (Bj ⟨sl,hp⟩ (.app sz by_ x y)) sl d K:=q_z
def Ato{d:Option Nat}{g:Option (Nat×Bool)}{fp:Bool}{chk:List Nat}(sz by_:Nat)(x y:AX):Et C ⟨d,.app sz by_ x y,g,id,fp,chk⟩ ⟨sl,hp⟩ KD=Is (Bj ⟨sl,hp⟩ (.app sz by_ x y)) sl d KD:=q_z
def Auc{d:Option Nat}{g:Option (Nat×Bool)}{fp:Bool}{chk:List Nat}(x:AX)(i:Nat):vc1 C ⟨d,.ext x i,g,id,fp,chk⟩ ⟨sl,hp⟩ K=Gw (Bj ⟨sl,hp⟩ (.ext x i)) sl d K:=q_z
def Atv{d:Option Nat}{g:Option (Nat×Bool)}{fp:Bool}{chk:List Nat}(x:AX)(i:Nat):Et C ⟨d,.ext x i,g,id,fp,chk⟩ ⟨sl,hp⟩ KD=Is (Bj ⟨sl,hp⟩ (.ext x i)) sl d KD:=q_z
def Auo{d:Option Nat}{g:Option (Nat×Bool)}{fp:Bool}{chk:List Nat}(mx:Bool)(x y:AX):vc1 C ⟨d,.mnx mx x y,g,id,fp,chk⟩ ⟨sl,hp⟩ K=Gw (Bj ⟨sl,hp⟩ (.mnx mx x y)) sl d K:=q_z
def At1{d:Option Nat}{g:Option (Nat×Bool)}{fp:Bool}{chk:List Nat}(mx:Bool)(x y:AX):Et C ⟨d,.mnx mx x y,g,id,fp,chk⟩ ⟨sl,hp⟩ KD=Is (Bj ⟨sl,hp⟩ (.mnx mx x y)) sl d KD:=q_z
def Atf{d:Option Nat}{g:Option (Nat×Bool)}{fp:Bool}{chk:List Nat}(x:AX):vc1 C ⟨d,.boxg x,g,id,fp,chk⟩ ⟨sl,hp⟩ K=Gw (Bj ⟨sl,hp⟩ (.boxg x)) sl d K:=q_z
def Aun{d:Option Nat}{g:Option (Nat×Bool)}{fp:Bool}{chk:List Nat} :vc1 C ⟨d,.mkmap,g,id,fp,chk⟩ ⟨sl,hp⟩ K=Gw (Bj ⟨sl,hp⟩ .mkmap) sl d K:=q_z
def Au7{d:Option Nat}{g:Option (Nat×Bool)}{fp:Bool}{chk:List Nat}(x i:AX):vc1 C ⟨d,.six x i,g,id,fp,chk⟩ ⟨sl,hp⟩ K=Gw (Bj ⟨sl,hp⟩ (.six x i)) sl d K:=q_z
def At7{d:Option Nat}{g:Option (Nat×Bool)}{fp:Bool}{chk:List Nat}(x i:AX):Et C ⟨d,.six x i,g,id,fp,chk⟩ ⟨sl,hp⟩ KD=Is (Bj ⟨sl,hp⟩ (.six x i)) sl d KD:=q_z
def At4:Gu C [] s fps p K=(p->K s):=q_z
def Auu:okD C o rest s fps p K ⟨sl,hp⟩ q=(Qw o s fps ⟨sl,hp⟩/\Gu C rest ⟨sl,hp⟩ (if o.fp then (o.id,o.op,s)::fps else fps) (p/\q) K):=q_z
def Att{d:Option Nat}{op:AOp}{id:Nat}{fp:Bool}{chk:List Nat}:Gu C (⟨d,op,none,id,fp,chk⟩::rest) ⟨sl,hp⟩ fps p K=(clear ⟨d,op,none,id,fp,chk⟩ ⟨sl,hp⟩ fps/\Et C ⟨d,op,none,id,fp,chk⟩ ⟨sl,hp⟩ (okD C ⟨d,op,none,id,fp,chk⟩ rest ⟨sl,hp⟩ fps p K)):=q_z
def Atu{d:Option Nat}{op:AOp}{t:Nat}{w:Bool}{id:Nat}{fp:Bool}{chk:List Nat}:Gu C (⟨d,op,some (t,w),id,fp,chk⟩::rest) ⟨sl,hp⟩ fps p K =
  (match sl.getD t .undef with
   |.bool b=>gs (b==w) ⟨sl,hp⟩ (goD C ⟨d,op,some (t,w),id,fp,chk⟩ rest fps p K) (skD C ⟨d,op,some (t,w),id,fp,chk⟩ rest fps p K)
   |.undef=>Gu C rest (St.put ⟨sl,hp⟩ d .undef) fps p K
   |_=>False):=q_z
def Aug:goD C o rest fps p K ⟨sl,hp⟩=(clear o ⟨sl,hp⟩ fps/\Et C o ⟨sl,hp⟩ (okD C o rest ⟨sl,hp⟩ fps p K)):=q_z
def Au8:skD C o rest fps p K ⟨sl,hp⟩=Gu C rest (St.put ⟨sl,hp⟩ o.d .undef) fps p K:=q_z
def Ats{d:Option Nat}{g:Option (Nat×Bool)}{fp:Bool}{chk:List Nat}{f:Nat}{args:List AX}:Et C ⟨d,.call f args,g,id,fp,chk⟩ ⟨sl,hp⟩ KD=(match Eo hp (args.map (St.get ⟨sl,hp⟩)) with
  |some (vs,h)=>Ach C f vs (Al1 sl h d KD)
  |none=>False):=q_z
def At6{d:Option Nat}{g:Option (Nat×Bool)}{fp:Bool}{chk:List Nat}{c x y:AX}:Et C ⟨d,.pick c x y,g,id,fp,chk⟩ ⟨sl,hp⟩ KD=(match St.get ⟨sl,hp⟩ c with
  |.bool t=>gs t ⟨sl,hp⟩ (pkD ⟨d,.pick c x y,g,id,fp,chk⟩ x KD) (pkD ⟨d,.pick c x y,g,id,fp,chk⟩ y KD)
  |_=>False):=q_z
def Auf{i:Nat}:St.get ⟨sl,hp⟩ (.t i)=sl.getD i .undef:=q_z
def Aue{v:SV}:St.get s (.c v)=v:=q_z
def Auz{i:Nat}{v:SV}:St.put ⟨sl,hp⟩ (some i) v=⟨sl.set i v,hp⟩:=q_z
def Auy{v:SV}:St.put ⟨sl,hp⟩ none v=⟨sl,hp⟩:=q_z
def Ave{v:SV}:St.val ⟨sl,hp⟩ (some v)=some { ob:=True,val:=v,hp:=hp }:=q_z
end
def least(p:Nat->Prop):∀n:Nat,∃x,x<=n/\(x=n\/p x)/\∀y,y<x->¬p y:=by
 intro n
 induction n with
 |zero=>exact⟨0,q_ja _,.inl rfl,fun y hy=>by omega⟩
 |succ n ih=>
  obtain⟨x,h1,h2,h3⟩:=ih
  by_cases hp:p x
  ·exact⟨x,by omega,.inr hp,h3⟩
  ·rcases h2 with rfl|h2
   ·refine⟨x+1,q_ja _,.inl rfl,fun y hy=>?_⟩
    by_cases hyx:y=x
    ·subst hyx;exact hp
    ·exact h3 y (by omega)
   ·exact absurd h2 hp
def w64{n:Int}(h:fit n):IntKind.i64.wrap n=n:=by
 unfold fit at h;rw[IntKind.wrap_i64];omega
def lq(S:Nat->St)(n i:Nat)(Q:AE->St->Prop):AE->St->Prop:=fun e s'=>match e with|.normal=>i<n/\Wk s' (S (i+1))|e=>Q e s'
def lq_n{S:Nat->St}{n i:Nat}{Q:AE->St->Prop}{s:St}:lq S n i Q .normal s=(i<n/\Wk s (S (i+1))):=q_z
def lq_e{S:Nat->St}{n i j:Nat}{Q:AE->St->Prop}{s:St}:lq S n i Q (.exit j) s=Q (.exit j) s:=q_z
def lq_r{S:Nat->St}{n i:Nat}{Q:AE->St->Prop}{s:St}:lq S n i Q .ret s=Q .ret s:=q_z
def Kf{C:CT}{b:AC}{Q:AE->St->Prop}(S:Nat->St)(n:Nat)(Ox:∀i,i<=n->vc C b (lq S n i Q) (S i)){s:St}(h0:Wk s (S 0)):vc C (.loop b) Q s:=by
 refine Agd (fun m s=>∃i,i<=n/\m=n-i/\Wk s (S i)) (fun m s hI=>?_) n s ⟨0,Nat.zero_le _,rfl,h0⟩;obtain⟨i,hi,rfl,hw⟩:=hI;refine⟨S i,hw,j0 (fun e s' he=>?_) (Ox i hi)⟩;cases e with
 |normal=>exact⟨n-(i+1),by have:=he.1;omega,i+1,he.1,rfl,he.2⟩
 |exit id=>exact he
 |ret=>exact he
def A3j{α:Type}{l:List α}{z d:α}{i:Nat}(hi:i<l.length):(l.take i++List.replicate (l.length-i) z).set i (l[i]?.getD d)=l.take (i+1)++List.replicate (l.length-(i+1)) z:=by
 rw[q_f hi,q_jz,List.set_append_right _ _ (by simp;omega),List.take_add_one,q_f hi,q_ju];congr 1;rw[show i-(l.take i).length=0 by simp;omega,show l.length-i=(l.length-(i+1))+1 by omega,List.replicate_succ,List.set_cons_zero];rfl
def Avk{cells:List SV}:fill cells []=cells:=rfl
def Avj{z z2:SV}{cells:List SV}{off:Nat}{v:SV}{r:List (Nat×Nat×SV)}:fill (z::z2::cells) ((off,1,v)::r)=fill ((z::z2::cells).set off ((cellsOf v).getD 0 .undef)) r:=by
 simp only[fill,Dm,q_jk];rw[if_neg (by omega),if_pos trivial]
def Arz{cl:Bool}{n c:Nat}{cells:List SV}:cut cl n true n c cells=.agg cl cells:=by simp[cut]
def Arv{cl:Bool}{sz n c:Nat}{cells:List SV}:cut cl sz false n c cells=cells.getD c .undef:=by simp[cut]
def A2w{n c:Nat}{cells new:List SV}:Dm n n c cells new=new:=by simp[Dm]
def Abk{sz c:Nat}{cells new:List SV}:Dm (sz+2) 1 c cells new=cells.set c (new.getD 0 .undef):=by simp[Dm]
def hv(i:Int)(a b x y h:Tm):List SV:=.int .i64 i::(tv a++(tv b++(tv x++(tv y++tv h))))
def Aby(t:Tm):tv t=[.int .i64 t.k,.int .i64 t.i,.int .i64 t.j,.int .i64 t.n,.dsl 5 (t.kids.map tv)]:=by cases t;rw[Bp];rfl
section
variable{i:Int}{a b x y h:Tm}
def hv_0:(hv i a b x y h)[0]?=some (.int .i64 i):=rfl
end
def Cb:List SV->List SV->Prop
 |[],[]=>True
 |a::l,b::r=>(a=.J\/a=b)/\Cb l r
 |_,_=>False
def A2v:∀{l r:List SV},Cb l r->l.length=r.length/\∀(i:Nat) (v:SV),l[i]?=some v->v=SV.J\/r[i]?=some v:=by
 intro l
 induction l with
 |nil=>intro r h;cases r with
  |nil=>simp
  |cons b r=>exact h.elim
 |cons a l ih=>
  intro r h;cases r with
  |nil=>exact h.elim
  |cons b r=>
   obtain⟨h1,h2⟩:=ih h.2;refine⟨by simp[h1],fun i v hv=>?_⟩;cases i with
   |zero=>
    simp at hv;subst hv;rcases h.1 with h|h
    ·exact .inl h
    ·exact .inr (by simp[h])
   |succ i=>simpa using h2 i v (by simpa using hv)
def Cr{l r:List SV}{hp:List Ob}(h:Cb l r):Wk ⟨r,hp⟩ ⟨l,hp⟩:=by
 obtain⟨h1,h2⟩:=A2v h;exact .slots ⟨r,hp⟩ l h1 h2
def Js{l r:List SV}{hp hq:List Ob}(n:Nat)(h:Cb l r)(hn:hq.take n=hp)(h1:∀v∈l,below n v=true)(h2:∀ob∈hp,ob.box=true->ob.cl=false->∀r∈ob.els,∀x∈r,below n x=true)(h3:(gOf hq).isSome=true->0<n:=by simp[gOf,gOb])(h4:∀ob∈hq.drop n,ob.gen<777:=by simp):Wk ⟨r,hq⟩ ⟨l,hp⟩:=by
 subst hn;exact .trans (Cr h) (.trunc ⟨l,hq⟩ n h3 h1 h2 h4)
end Go.Proofs.YtgfehkhcmnfpaaaGreatDoor.Abs
