import Derived.Test.YtdpigpopcbjkmaaGreatDoorZAby
set_option linter.unusedSimpArgs false
set_option linter.unusedVariables false
set_option maxRecDepth 20000
set_option maxHeartbeats 4000000
namespace Go.Proofs.YtdpigpopcbjkmaaGreatDoor.Abs
open Go Go.RowKit
inductive Tm where
 |mk (k i j n:Int) (kids:List Tm)
 deriving Inhabited
namespace Tm
def k:Tm->Int|.mk k _ _ _ _=>k
def i:Tm->Int|.mk _ i _ _ _=>i
def j:Tm->Int|.mk _ _ j _ _=>j
def n:Tm->Int|.mk _ _ _ n _=>n
def kids:Tm->List Tm|.mk _ _ _ _ l=>l
end Tm
theorem Tm.ind {p:Tm->Prop} (h:∀k i j n l,(∀t∈l,p t)->p (.mk k i j n l)):∀t,p t:=by
 intro t;exact Tm.rec (motive_1:=p) (motive_2:=fun l=>∀t∈l,p t) (fun k i j n l ih=>h k i j n l ih) (fun t ht=>by cases ht) (fun t l h1 h2 u hu=>by
  rcases List.mem_cons.1 hu with rfl|hu
  ·exact h1
  ·exact h2 u hu) t
def tv:Tm->List SV
 |.mk k i j n l=>[.int .i64 k,.int .i64 i,.int .i64 j,.int .i64 n,.dsl 5 (l.map tv)]
theorem Am (k i j n:Int) (l:List Tm):tv (.mk k i j n l)=[.int .i64 k,.int .i64 i,.int .i64 j,.int .i64 n,.dsl 5 (l.map tv)]:=by rw [tv]
theorem Ag (t:Tm):(tv t).length=5:=by cases t;rw [Am];rfl
def fit (n:Int):Prop:=-9223372036854775808<=n/\n<=9223372036854775807
inductive TOk:Tm->Prop
 |mk (k i j n:Int) (l:List Tm):fit k->fit i->fit j->fit n->l.length*56<=140737488355328->(∀t∈l,TOk t)->TOk (.mk k i j n l)
def Ad8 (P:Program) (t:TypeId):Option (List TypeId):=
 match P.underlying t with
 |some (.struct fs)=>some (fs.toList.map (·.type))
 |_=>none
section
variable {P:Program}
theorem Aac {t:TypeId} {svs:List SV} (hu:P.underlying t=some (.int .i64)) (h:Hk P t svs):∃n,svs=[.int .i64 n]/\fit n:=by
 cases h with
 |int _ k n h1 h2=>
  rw [hu] at h1;cases h1;refine⟨n,rfl,?_⟩;simp only [Lit.wf,Bool.and_eq_true,decide_eq_true_eq] at h2;unfold fit;have e1:IntKind.i64.min=-9223372036854775808:=by decide
  have e2:IntKind.i64.max=9223372036854775807:=by decide
  omega
 |bool _ _ h1=>rw [hu] at h1;cases h1
 |float _ _ _ h1=>rw [hu] at h1;cases h1
 |str _ _ h1=>rw [hu] at h1;cases h1
 |slice _ _ _ h1=>rw [hu] at h1;cases h1
 |struct _ _ _ h1=>rw [hu] at h1;cases h1
theorem Bie {t e:TypeId} {svs:List SV} (hu:Oe P t=some e) (h:Hk P t svs):∃l,svs=[.dsl (P.cellsOf e) l]/\l.length*P.bytesOf e<=reachBytes/\∀r∈l,Hk P e r:=by
 have Ei:∀d,P.underlying t=some d->(∀e,d≠.slice e)->False:=fun d hd hn=>by
  unfold Oe at hu;rw [hd] at hu;cases d<;>first|(exact hn _ rfl)|(cases hu)
 cases h with
 |int _ _ _ h1=>exact (Ei _ h1 (by simp)).elim
 |bool _ _ h1=>exact (Ei _ h1 (by simp)).elim
 |float _ _ _ h1=>exact (Ei _ h1 (by simp)).elim
 |str _ _ h1=>exact (Ei _ h1 (by simp)).elim
 |struct _ _ _ h1=>exact (Ei _ h1 (by simp)).elim
 |slice _ e' l h1 h2 h3=>
  simp only [Oe,h1,q_b] at hu;subst hu;exact⟨l,rfl,h2,h3⟩
theorem Azt {X:Type} {f:X->List SV} {p:X->Prop}:∀{l:List (List SV)},(∀r∈l,∃x,p x/\r=f x)->∃xs:List X,l=xs.map f/\∀x∈xs,p x:=by
 intro l
 induction l with
 |nil=>intro _;exact⟨[],rfl,by simp⟩
 |cons r l ih=>
  intro h;obtain⟨x,hx,rfl⟩:=h r List.mem_cons_self;obtain⟨xs,rfl,Eu⟩:=ih (fun r hr=>h r (List.mem_cons_of_mem _ hr));exact⟨x::xs,rfl,fun y hy=>by rcases List.mem_cons.1 hy with rfl|hy;exact hx;exact Eu y hy⟩
structure TmT (P:Program) (T L I:TypeId):Prop where
 t:Ad8 P T=some [I,I,I,I,L]
 l:Oe P L=some T
 i:P.underlying I=some (.int .i64)
 c:P.cellsOf T=5
 b:P.bytesOf T=56
theorem Agy {T L I:TypeId} (hT:TmT P T L I) {t:TypeId} {svs:List SV} (h:Hk P t svs):(t=T->∃tm,TOk tm/\svs=tv tm)/\(t=L->∃l:List Tm,(∀x∈l,TOk x)/\l.length*56<=140737488355328/\svs=[.dsl 5 (l.map tv)]):=by
 have h0:=h;have uT:∃fs,P.underlying T=some (.struct fs):=by
  have:=hT.t;unfold Ad8 at this;split at this
  ·rename_i fs Jh;exact⟨fs,Jh⟩
  ·cases this
 have uL:P.underlying L=some (.slice T):=by
  have:=hT.l;unfold Oe at this;split at this
  ·rename_i e he;cases this;exact he
  ·cases this
 obtain⟨fs0,uT⟩:=uT
 induction h with
 |int t _ _ h1=>exact⟨fun e=>(by subst e;rw [uT] at h1;cases h1),fun e=>(by subst e;rw [uL] at h1;cases h1)⟩
 |bool t _ h1=>exact⟨fun e=>(by subst e;rw [uT] at h1;cases h1),fun e=>(by subst e;rw [uL] at h1;cases h1)⟩
 |float t _ _ h1=>exact⟨fun e=>(by subst e;rw [uT] at h1;cases h1),fun e=>(by subst e;rw [uL] at h1;cases h1)⟩
 |str t _ h1=>exact⟨fun e=>(by subst e;rw [uT] at h1;cases h1),fun e=>(by subst e;rw [uL] at h1;cases h1)⟩
 |slice t e l h1 h2 h3 ih=>
  refine⟨fun e=>(by subst e;rw [uT] at h1;cases h1),fun he=>?_⟩;subst he;rw [uL] at h1;cases h1;obtain⟨xs,rfl,Eu⟩:=Azt (f:=tv) (p:=TOk) (l:=l) (fun r hr=>(ih r hr (h3 r hr)).1 rfl);refine⟨xs,Eu,?_,by rw [hT.c]⟩;rw [hT.b,q_g] at h2;exact Nat.le_trans h2 (by decide)
 |struct t fs parts h1 h2 h3 ih=>
  refine⟨fun he=>?_,fun he=>(by subst he;rw [uL] at h1;cases h1)⟩;subst he;have Lm:=hT.t;simp only [Ad8,h1,q_b] at Lm;have hl5:fs.toList.length=5:=by have:=congrArg List.length Lm;simpa using this
  match parts,h2.trans hl5,Lm with
  |[p0,p1,p2,p3,p4],_,Lm=>
   match Hy:fs.toList,hl5 with
   |[f0,f1,f2,f3,f4],_=>
    rw [Hy] at Lm h3 ih;simp only [q_h,q_i,List.cons.injEq,and_true] at Lm;obtain⟨e0,e1,e2,e3,e4⟩:=Lm;have a0:=h3 0 f0 p0 rfl rfl;have a1:=h3 1 f1 p1 rfl rfl;have a2:=h3 2 f2 p2 rfl rfl;have a3:=h3 3 f3 p3 rfl rfl;have a4:=h3 4 f4 p4 rfl rfl;rw [e0] at a0;rw [e1] at a1;rw [e2] at a2;rw [e3] at a3;obtain⟨k,rfl,fk⟩:=Aac hT.i a0;obtain⟨i,rfl,fi⟩:=Aac hT.i a1;obtain⟨j,rfl,fj⟩:=Aac hT.i a2;obtain⟨n,rfl,fn⟩:=Aac hT.i a3;obtain⟨l,hl,hb,rfl⟩:=(ih 4 f4 p4 rfl rfl a4).2 e4;exact⟨.mk k i j n l,.mk k i j n l fk fi fj fn hb hl,by rw [Am];rfl⟩
end
inductive Lec:SV->SV->Prop
 |refl (v:SV):Lec v v
 |nils (sz:Nat):Lec .nils (.dsl sz [])
inductive Les:List SV->List SV->Prop
 |nil:Les [] []
 |cons (a b:SV) (l r:List SV):Lec a b->Les l r->Les (a::l) (b::r)
inductive Lev:SV->SV->Prop
 |cell (a b:SV):Lec a b->Lev a b
 |agg (l r:List SV):Les l r->Lev (.agg true l) (.agg true r)
inductive Levs:List SV->List SV->Prop
 |nil:Levs [] []
 |cons (a b:SV) (l r:List SV):Lev a b->Levs l r->Levs (a::l) (b::r)
inductive Le:SV->SV->Prop
 |val (a b:SV):Lev a b->Le a b
 |tup (l r:List SV):Levs l r->Le (.tup l) (.tup r)
theorem Lec.rep {m:Mem} {v:Value} {a b:SV} (h:Lec a b) (hr:Rep m v a):Rep m v b:=by
 cases h with
 |refl=>exact hr
 |nils sz=>cases hr;exact .dsl0 _ _ _
theorem Les.get {l r:List SV} (h:Les l r):l.length=r.length/\∀(j:Nat) b,r[j]?=some b->∃a,l[j]?=some a/\Lec a b:=by
 induction h with
 |nil=>simp
 |cons a b l r h1 _ ih=>
  refine⟨by simp [ih.1],fun j c hc=>?_⟩;cases j with
  |zero=>simp at hc;subst hc;exact⟨a,rfl,h1⟩
  |succ j=>exact ih.2 j c (by simpa using hc)
theorem Lev.rep {m:Mem} {v:Value} {a b:SV} (h:Lev a b) (hr:Rep m v a):Rep m v b:=by
 cases h with
 |cell _ _ h=>exact h.rep hr
 |agg l r h=>
  obtain⟨h1,h2⟩:=h.get;cases hr with
  |agg vs _ g0 g1 g2=>
   refine .agg vs r g0 (by omega) (fun j v x hv hx=>?_);obtain⟨a,ha,hle⟩:=h2 j x hx;exact hle.rep (g2 j v a hv ha)
theorem Levs.get {l r:List SV} (h:Levs l r):l.length=r.length/\∀(j:Nat) b,r[j]?=some b->∃a,l[j]?=some a/\Lev a b:=by
 induction h with
 |nil=>simp
 |cons a b l r h1 _ ih=>
  refine⟨by simp [ih.1],fun j c hc=>?_⟩;cases j with
  |zero=>simp at hc;subst hc;exact⟨a,rfl,h1⟩
  |succ j=>exact ih.2 j c (by simpa using hc)
theorem Le.rep {m:Mem} {v:Value} {a b:SV} (h:Le a b) (hr:Rep m v a):Rep m v b:=by
 cases h with
 |val _ _ h=>exact h.rep hr
 |tup l r h=>
  obtain⟨h1,h2⟩:=h.get;cases hr with
  |tup vs _ g1 g2=>
   refine .tup vs r (by omega) (fun j v x hv hx=>?_);obtain⟨a,ha,hle⟩:=h2 j x hx;exact hle.rep (g2 j v a hv ha)
theorem Contract.weaken {P:Program} {f:Nat} {args:List SV} {r r':SV} (h:Contract P f args r) (hl:Le r r'):Contract P f args r':=by
 intro m w vs h1 h2 h3;refine Calls.mono (h m w vs h1 h2 h3) (fun e w' he=>?_);obtain⟨v,m',a1,a2,a3⟩:=he;exact⟨v,m',a1,hl.rep a2,a3⟩
theorem Les.refl:∀l:List SV,Les l l
 |[]=>.nil
 |a::l=>.cons a a l l (.refl a) (Les.refl l)
theorem Mh (k i j n:Int):Le (.agg true [.int .i64 k,.int .i64 i,.int .i64 j,.int .i64 n,.nils]) (.agg true (tv (.mk k i j n []))):=by
 rw [Am];exact .val _ _ (.agg _ _ (.cons _ _ _ _ (.refl _) (.cons _ _ _ _ (.refl _) (.cons _ _ _ _ (.refl _) (.cons _ _ _ _ (.refl _) (.cons _ _ _ _ (.nils 5) .nil))))))
theorem Aqd {C:CT} {o:Av} {s:St} {K K':St->Prop} (hK:∀s,K s->K' s) (h:vc1 C o s K):vc1 C o s K':=by
 obtain⟨d,op,g,id,fp,chk⟩:=o;cases op with
 |call f args=>
  simp only [vc1] at h |-;split
  ·rename_i vs hh hcl;simp only [hcl] at h;obtain⟨r,h1,h2⟩:=h;exact⟨r,h1,hK _ h2⟩
  ·rename_i hcl;simp only [hcl] at h
 |callv fs x args=>
  simp only [vc1] at h |-;split
  ·rename_i f hf;simp only [hf] at h;split
   ·rename_i Cr;simp only [Cr,if_true] at h;split
    ·rename_i vs hh hcl;simp only [hcl] at h;obtain⟨r,h1,h2⟩:=h;exact⟨r,h1,hK _ h2⟩
    ·rename_i hcl;simp only [hcl] at h
   ·rename_i Cr;rw [if_neg Cr] at h;exact h
  ·rename_i hf;split at h
   ·rename_i f Qe;exact absurd Qe (hf f)
   ·exact h
 |pick c a b=>
  simp only [vc1] at h |-;split
  ·rename_i t ht;simp only [ht] at h;exact⟨fun h1=>hK _ (h.1 h1),fun h1=>hK _ (h.2 h1)⟩
  ·rename_i ht;split at h
   ·rename_i t Gg;exact absurd Gg (ht t)
   ·exact h
 |hcall f args=>
  simp only [vc1] at h |-;split
  ·rename_i vs hh hcl;simp only [hcl] at h;split
   ·rename_i G hG;simp only [hG] at h;obtain⟨T,h1,h2⟩:=h;refine⟨T,h1,fun out G' ho=>?_⟩;have h3:=h2 out G' ho;cases out with
    |ret r=>exact hK _ h3
    |pan x=>exact h3
   ·rename_i hG;simp only [hG] at h
  ·rename_i hcl;simp only [hcl] at h
 |pan x=>exact h
 |bin kd op x y=>
  simp only [vc1] at h |-;split
  ·rename_i va vb hc;simp only [hc] at h;exact⟨fun hb=>hK _ (h.1 hb),hK _ h.2⟩
  ·rename_i hc;simp only [hc] at h;split
   ·rename_i e he;simp only [he] at h;exact⟨h.1,fun ha=>hK _ (h.2 ha)⟩
   ·rename_i he;simp only [he] at h
 |_=>
  simp only [vc1] at h |-;split
  ·rename_i e he;simp only [he] at h;exact⟨h.1,fun ha=>hK _ (h.2 ha)⟩
  ·rename_i he;simp only [he] at h
theorem Akz {C:CT} {o:Av} {s:St} {K:St->Prop->Prop} (h:Cg C o s K) {K':St->Prop->Prop} (hK:∀s q,K s q->K' s q):Cg C o s K':=by
 obtain⟨d,op,g,id,fp,chk⟩:=o;cases op with
 |call f args=>
  simp only [Cg] at h |-;split
  ·rename_i vs hh hcl;simp only [hcl] at h;obtain⟨r,h1,h2⟩:=h;exact⟨r,h1,hK _ _ h2⟩
  ·rename_i hcl;simp only [hcl] at h
 |callv fs x args=>
  simp only [Cg] at h |-;split
  ·rename_i f hf;simp only [hf] at h;split
   ·rename_i Cr;simp only [Cr,if_true] at h;split
    ·rename_i vs hh hcl;simp only [hcl] at h;obtain⟨r,h1,h2⟩:=h;exact⟨r,h1,hK _ _ h2⟩
    ·rename_i hcl;simp only [hcl] at h
   ·rename_i Cr;rw [if_neg Cr] at h;exact h
  ·rename_i hf;split at h
   ·rename_i f Qe;exact absurd Qe (hf f)
   ·exact h
 |pick c a b=>
  simp only [Cg] at h |-;split
  ·rename_i t ht;simp only [ht] at h;exact⟨fun h1=>hK _ _ (h.1 h1),fun h1=>hK _ _ (h.2 h1)⟩
  ·rename_i ht;split at h
   ·rename_i t Gg;exact absurd Gg (ht t)
   ·exact h
 |hcall f args=>
  simp only [Cg] at h |-;split
  ·rename_i vs hh hcl;simp only [hcl] at h;split
   ·rename_i G hG;simp only [hG] at h;obtain⟨out,G',h1,h2⟩:=h;refine⟨out,G',h1,?_⟩;cases out with
    |ret r=>exact hK _ _ h2
    |pan x=>exact h2
   ·rename_i hG;simp only [hG] at h
  ·rename_i hcl;simp only [hcl] at h
 |pan x=>exact h
 |_=>
  simp only [Cg] at h |-;split
  ·rename_i e he;simp only [he] at h;exact⟨h.1,hK _ _ h.2⟩
  ·rename_i he;simp only [he] at h
theorem At6 {C:CT}:∀{l:List Av} {s:St} {K K':St->Prop},(∀s,K s->K' s)->Es C l s K->Es C l s K':=by
 intro l
 induction l with
 |nil=>intro s K K' h hv;exact h s hv
 |cons o l ih=>
  intro s K K' h hv;have one:∀{s:St},vc1 C o s (fun s'=>Es C l s' K)->vc1 C o s (fun s'=>Es C l s' K'):=by
   intro s hv;exact Aqd (fun s=>ih h) hv
  simp only [Es] at hv |-;split at hv
  ·exact one hv
  ·split at hv
   ·exact⟨fun hb=>one (hv.1 hb),fun hb=>ih h (hv.2 hb)⟩
   ·exact ih h hv
   ·exact hv.elim
theorem Bbn {C:CT}:∀{l:List Av} {s:St} {fps:List (Nat×AOp×St)} {p:Prop} {K K':St->Prop},(∀s,K s->K' s)->Fb C l s fps p K->Fb C l s fps p K':=by
 intro l
 induction l with
 |nil=>intro s fps p K K' h hv hp;exact h s (hv hp)
 |cons o l ih=>
  intro s fps p K K' h hv;simp only [Fb] at hv |-;split at hv
  ·exact⟨hv.1,Akz hv.2 (fun s q hk=>⟨hk.1,ih h hk.2⟩)⟩
  ·split at hv
   ·exact⟨fun hb=>⟨(hv.1 hb).1,Akz (hv.1 hb).2 (fun s q hk=>⟨hk.1,ih h hk.2⟩)⟩,fun hb=>ih h (hv.2 hb)⟩
   ·exact ih h hv
   ·exact hv.elim
theorem Aqt {body:(AE->St->Prop)->St->Prop} (hb:∀(Q Q':AE->St->Prop) (s:St),(∀e s,Q e s->Q' e s)->body Q s->body Q' s) {Q Q':AE->St->Prop} (h:∀e s,Q e s->Q' e s):∀{n:Nat} {s:St},Nx body Q n s->Nx body Q' n s:=by
 intro n
 induction n with
 |zero=>intro s h;exact h
 |succ n ih=>
  intro s hv;obtain⟨s0,h1,h2⟩:=hv;refine⟨s0,h1,hb _ _ _ (fun e s he=>?_) h2⟩;cases e with
  |normal=>exact ih he
  |exit id=>exact h _ _ he
  |ret=>exact h _ _ he
theorem Uw {C:CT}:∀{c:AC} {Q Q':AE->St->Prop} {s:St},(∀e s,Q e s->Q' e s)->vc C c Q s->vc C c Q' s:=by
 intro c
 induction c with
 |skip=>intro Q Q' s h hv;exact h _ _ hv
 |reg ops draw=>
  intro Q Q' s h hv;simp only [vc] at hv |-;cases draw with
  |true=>exact Bbn (h .normal) hv
  |false=>exact At6 (h .normal) hv
 |seq a b iha ihb=>
  intro Q Q' s h hv;simp only [vc] at hv |-;refine iha (fun e s he=>?_) hv;cases e with
  |normal=>exact ihb h he
  |exit id=>exact h _ _ he
  |ret=>exact h _ _ he
 |cond c a b iha ihb=>
  intro Q Q' s h hv;simp only [vc] at hv |-;split at hv
  ·exact⟨fun ht=>iha h (hv.1 ht),fun ht=>ihb h (hv.2 ht)⟩
  ·exact hv.elim
 |blk id b ih=>
  intro Q Q' s h hv;simp only [vc] at hv |-;refine ih (fun e s he=>?_) hv;cases e with
  |normal=>exact h _ _ he
  |exit j=>
   simp only at he |-;split at he
   ·rename_i hj;rw [if_pos hj];exact h _ _ he
   ·rename_i hj;rw [if_neg hj];exact h _ _ he
  |ret=>exact h _ _ he
 |loop b ih=>
  intro Q Q' s h hv;obtain⟨n,hv⟩:=hv;exact⟨n,Aqt (body:=fun Q' s'=>vc C b Q' s') (fun Q Q' s h h2=>ih h h2) h hv⟩
 |exit id=>intro Q Q' s h hv;exact h _ _ hv
 |ret=>intro Q Q' s h hv;exact h _ _ hv
theorem Adn {C:CT} {b:AC} {Q:AE->St->Prop} (I:Nat->St->Prop) (Ow:∀m s,I m s->∃s0,Wk s s0/\vc C b (fun e s'=>match e with|.normal=>∃m',m'<m/\I m' s'|e=>Q e s') s0) :
  ∀(m:Nat) (s:St),I m s->vc C (.loop b) Q s:=by
 have key:∀n m s,m<n->I m s->Nx (fun Q' s'=>vc C b Q' s') Q n s:=by
  intro n
  induction n with
  |zero=>intro m s hm;omega
  |succ n ih=>
   intro m s hm hI;obtain⟨s0,h1,h2⟩:=Ow m s hI;refine⟨s0,h1,Uw (fun e s' he=>?_) h2⟩;cases e with
   |normal=>
    obtain⟨m',hm',hI'⟩:=he;exact ih m' s' (by omega) hI'
   |exit id=>exact he
   |ret=>exact he
 intro m s hI;exact⟨m+1,key (m+1) m s (by omega) hI⟩
def sq (C:CT) (b:AC) (Q:AE->St->Prop):AE->St->Prop:=fun e s'=>match e with|.normal=>vc C b Q s'|e=>Q e s'
def bk (id:Nat) (Q:AE->St->Prop):AE->St->Prop:=fun e s'=>match e with|.exit j=>if j=id then Q .normal s' else Q (.exit j) s'|e=>Q e s'
def ok (C:CT) (rest:List Av) (K:St->Prop) (s:St):Prop:=Es C rest s K
def okD (C:CT) (o:Av) (rest:List Av) (s0:St) (fps:List (Nat×AOp×St)) (p:Prop) (K:St->Prop) (s:St) (q:Prop):Prop:=Qy o s0 fps s/\Fb C rest s (if o.fp then (o.id,o.op,s0)::fps else fps) (p/\q) K
def goG (C:CT) (o:Av) (rest:List Av) (K:St->Prop) (s:St):Prop:=vc1 C o s (ok C rest K)
def skG (C:CT) (o:Av) (rest:List Av) (K:St->Prop) (s:St):Prop:=Es C rest (s.put o.d .undef) K
def goD (C:CT) (o:Av) (rest:List Av) (fps:List (Nat×AOp×St)) (p:Prop) (K:St->Prop) (s:St):Prop:=clear o s fps/\Cg C o s (okD C o rest s fps p K)
def skD (C:CT) (o:Av) (rest:List Av) (fps:List (Nat×AOp×St)) (p:Prop) (K:St->Prop) (s:St):Prop:=Fb C rest (s.put o.d .undef) fps p K
def pk (o:Av) (x:AX) (K:St->Prop) (s:St):Prop:=K (s.put o.d (s.get x))
def pkD (o:Av) (x:AX) (K:St->Prop->Prop) (s:St):Prop:=K (s.put o.d (s.get x)) True
def Yk (C:CT) (f:Nat) (vs:List SV) (P:SV->Prop):Prop:=∃r,C.p f vs r/\P r
theorem Aa {Q:Program} {X:SV->List (List SV)->Prop} {f:Nat} {vs:List SV} {P:SV->Prop} {r:SV} (h:Contract Q f vs r) (hP:P r):Yk (Bd Q X) f vs P:=⟨r,h,hP⟩
def Aau (C:CT) (t:Bool) (f:Nat) (G:List (List SV)) (vs:List SV) (b:Prop) (P:SV->List (List SV)->Prop):Prop:=
 match t with
 |true=>∃T,C.q f G vs T/\∀out G',T out G'->(match out with|.ret r=>P r G'|.pan x=>b/\C.x x G')
 |false=>∃out G',C.h f G vs out G'/\(match out with|.ret r=>P r G'|.pan x=>b/\C.x x G')
theorem Ac {Q:Program} {X:SV->List (List SV)->Prop} {t:Bool} {f:Nat} {G G':List (List SV)} {vs:List SV} {b:Prop} {P:SV->List (List SV)->Prop} {r:SV} (h:HContract Q f G vs (.ret r) G') (hP:P r G'):Aau (Bd Q X) t f G vs b P:=by
 cases t with
 |false=>exact⟨.ret r,G',h,hP⟩
 |true=>exact⟨_,h.q,fun out G1 ho=>by obtain⟨rfl,rfl⟩:=ho;exact hP⟩
theorem Dh {Q:Program} {X:SV->List (List SV)->Prop} {t:Bool} {f:Nat} {G G':List (List SV)} {vs:List SV} {b:Prop} {P:SV->List (List SV)->Prop} {x:SV} (h:HContract Q f G vs (.pan x) G') (hb:b) (hX:X x G'):Aau (Bd Q X) t f G vs b P:=by
 cases t with
 |false=>exact⟨.pan x,G',h,hb,hX⟩
 |true=>exact⟨_,h.q,fun out G1 ho=>by obtain⟨rfl,rfl⟩:=ho;exact⟨hb,hX⟩⟩
def Alv (sl:List SV) (h:List Ob) (d:Option Nat) (K:St->Prop) (r:SV) (G':List (List SV)):Prop:=K (St.put ⟨sl,h.set 0 (gOb G')⟩ d r)
def Al8 (sl:List SV) (h:List Ob) (d:Option Nat) (K:St->Prop->Prop) (r:SV) (G':List (List SV)):Prop:=K (St.put ⟨sl,h.set 0 (gOb G')⟩ d r) True
theorem A8l {sl:List SV} {h:List Ob} {d:Option Nat} {K:St->Prop} {r:SV} {G':List (List SV)}:Alv sl h d K r G'=K (St.put ⟨sl,h.set 0 (gOb G')⟩ d r):=Eq.trans rfl rfl
theorem A7b {sl:List SV} {h:List Ob} {d:Option Nat} {K:St->Prop->Prop} {r:SV} {G':List (List SV)}:Al8 sl h d K r G'=K (St.put ⟨sl,h.set 0 (gOb G')⟩ d r) True:=Eq.trans rfl rfl
theorem Ass {G:List (List SV)} {hp:List Ob}:gOf (gOb G::hp)=some G:=Eq.trans rfl rfl
def rtG (res:List AR) (out:HOut) (G':List (List SV)):AE->St->Prop:=fun e s=>match e with|.exit _=>False|_=>match out with|.ret r=>Ol res r G' s|.pan _=>False
def rtQ (res:List AR) (T:HOut->List (List SV)->Prop):AE->St->Prop:=fun e s=>match e with|.exit _=>False|_=>Yj res T s
def Ad7 (sl:List SV) (h:List Ob) (d:Option Nat) (K:St->Prop) (r:SV):Prop:=K (St.put ⟨sl,h⟩ d r)
def Aec (sl:List SV) (h:List Ob) (d:Option Nat) (K:St->Prop->Prop) (r:SV):Prop:=K (St.put ⟨sl,h⟩ d r) True
theorem Awr {sl:List SV} {h:List Ob} {d:Option Nat} {K:St->Prop} {r:SV}:Ad7 sl h d K r=K (St.put ⟨sl,h⟩ d r):=Eq.trans rfl rfl
theorem Ar1 {sl:List SV} {h:List Ob} {d:Option Nat} {K:St->Prop->Prop} {r:SV}:Aec sl h d K r=K (St.put ⟨sl,h⟩ d r) True:=Eq.trans rfl rfl
def rt (res:List AR) (r:SV):AE->St->Prop:=fun e s=>match e with|.exit _=>False|_=>Jc res r s
section
variable {C:CT} {a b:AC} {Q:AE->St->Prop} {sl:List SV} {hp:List Ob} {s:St} {K:St->Prop} {KD:St->Prop->Prop} {o:Av} {rest:List Av} {fps:List (Nat×AOp×St)} {p q:Prop} {id j:Nat}
theorem ev_F {n:Nat} {res:List AR} {args:List SV} {r:SV}:vcF C { ntmps:=n,res:=res,body:=b } args r=vc C b (rt res r) ⟨args++List.replicate (n-args.length) .undef,[]⟩:=Eq.trans rfl rfl
theorem rt_n {res:List AR} {r:SV}:rt res r .normal s=Jc res r s:=Eq.trans rfl rfl
theorem rt_r {res:List AR} {r:SV}:rt res r .ret s=Jc res r s:=Eq.trans rfl rfl
theorem rt_e {res:List AR} {r:SV}:rt res r (.exit j) s=False:=Eq.trans rfl rfl
theorem Awd {res:List AR} {r:SV}:Jc res r ⟨sl,hp⟩=(match Lu ⟨sl,hp⟩ res with
 |some (p,vs,_)=>p/\r=(match vs with|[v]=>v|vs=>.tup vs)
 |none=>False):=Eq.trans rfl rfl
theorem sq_n:sq C b Q .normal s=vc C b Q s:=Eq.trans rfl rfl
theorem sq_e:sq C b Q (.exit j) s=Q (.exit j) s:=Eq.trans rfl rfl
theorem sq_r:sq C b Q .ret s=Q .ret s:=Eq.trans rfl rfl
theorem bk_n:bk id Q .normal s=Q .normal s:=Eq.trans rfl rfl
theorem bk_e:bk id Q (.exit j) s=if j=id then Q .normal s else Q (.exit j) s:=Eq.trans rfl rfl
theorem bk_r:bk id Q .ret s=Q .ret s:=Eq.trans rfl rfl
theorem Bfe:vc C .skip Q s=Q .normal s:=Eq.trans rfl rfl
theorem Be2:vc C .ret Q s=Q .ret s:=Eq.trans rfl rfl
theorem Bd7:vc C (.exit id) Q s=Q (.exit id) s:=Eq.trans rfl rfl
theorem Bat {ops:List Av}:vc C (.reg ops false) Q ⟨sl,hp⟩=Es C ops ⟨sl,hp⟩ (Q .normal):=by simp [vc]
theorem A6i {ops:List Av}:vc C (.reg ops true) Q ⟨sl,hp⟩=Fb C ops ⟨sl,hp⟩ [] True (Q .normal):=by simp [vc]
theorem At5:vc C (.seq a b) Q ⟨sl,hp⟩=vc C a (sq C b Q) ⟨sl,hp⟩:=Eq.trans rfl rfl
theorem Bbm:vc C (.blk id b) Q ⟨sl,hp⟩=vc C b (bk id Q) ⟨sl,hp⟩:=Eq.trans rfl rfl
theorem Awx {c:AX}:vc C (.cond c a b) Q ⟨sl,hp⟩=(match St.get ⟨sl,hp⟩ c with|.bool t=>gs t ⟨sl,hp⟩ (vc C a Q) (vc C b Q)|_=>False):=Eq.trans rfl rfl
theorem Axq {n:Nat} {res:List AR} {G G':List (List SV)} {args:List SV} {out:HOut}:Ala C { ntmps:=n,res:=res,body:=b } G args out G'=vc C b (rtG res out G') ⟨args++List.replicate (n-args.length) .undef,[gOb G]⟩:=Eq.trans rfl rfl
theorem A3h {res:List AR} {G':List (List SV)} {r:SV}:rtG res (.ret r) G' .normal s=Ol res r G' s:=Eq.trans rfl rfl
theorem Ard {res:List AR} {G':List (List SV)} {r:SV}:rtG res (.ret r) G' .ret s=Ol res r G' s:=Eq.trans rfl rfl
theorem A6z {res:List AR} {G':List (List SV)} {x:SV}:rtG res (.pan x) G' .normal s=False:=Eq.trans rfl rfl
theorem A2q {res:List AR} {G':List (List SV)} {x:SV}:rtG res (.pan x) G' .ret s=False:=Eq.trans rfl rfl
theorem Bbj {res:List AR} {G':List (List SV)} {out:HOut}:rtG res out G' (.exit j) s=False:=Eq.trans rfl rfl
theorem Az4 {res:List AR} {G':List (List SV)} {r:SV}:Ol res r G' ⟨sl,hp⟩=(match Lu ⟨sl,hp⟩ res with
 |some (p,vs,h)=>p/\r=(match vs with|[v]=>v|vs=>.tup vs)/\gOf h=some G'
 |none=>False):=Eq.trans rfl rfl
theorem Awq {n:Nat} {res:List AR} {G:List (List SV)} {args:List SV} {T:HOut->List (List SV)->Prop}:Bfy C { ntmps:=n,res:=res,body:=b } G args T=vc C b (rtQ res T) ⟨args++List.replicate (n-args.length) .undef,[gOb G]⟩:=Eq.trans rfl rfl
theorem Ba3 {res:List AR} {T:HOut->List (List SV)->Prop}:rtQ res T .normal s=Yj res T s:=Eq.trans rfl rfl
theorem Aow {res:List AR} {T:HOut->List (List SV)->Prop}:rtQ res T .ret s=Yj res T s:=Eq.trans rfl rfl
theorem Ayg {res:List AR} {T:HOut->List (List SV)->Prop}:rtQ res T (.exit j) s=False:=Eq.trans rfl rfl
theorem Ayo {res:List AR} {T:HOut->List (List SV)->Prop}:Yj res T ⟨sl,hp⟩=(match Lu ⟨sl,hp⟩ res with
 |some (p,vs,h)=>p/\(match gOf h with
  |some G'=>T (.ret (match vs with|[v]=>v|vs=>.tup vs)) G'
  |none=>False)
 |none=>False):=Eq.trans rfl rfl
theorem A5v:Es C [] s K=K s:=Eq.trans rfl rfl
theorem Apk:ok C rest K s=Es C rest s K:=Eq.trans rfl rfl
theorem Axk {d:Option Nat} {op:AOp} {id:Nat} {fp:Bool} {chk:List Nat}:Es C (⟨d,op,none,id,fp,chk⟩::rest) ⟨sl,hp⟩ K=vc1 C ⟨d,op,none,id,fp,chk⟩ ⟨sl,hp⟩ (ok C rest K):=Eq.trans rfl rfl
theorem Avn {d:Option Nat} {op:AOp} {t:Nat} {w:Bool} {id:Nat} {fp:Bool} {chk:List Nat}:Es C (⟨d,op,some (t,w),id,fp,chk⟩::rest) ⟨sl,hp⟩ K =
  (match sl.getD t .undef with
   |.bool b=>gs (b==w) ⟨sl,hp⟩ (goG C ⟨d,op,some (t,w),id,fp,chk⟩ rest K) (skG C ⟨d,op,some (t,w),id,fp,chk⟩ rest K)
   |.undef=>Es C rest (St.put ⟨sl,hp⟩ d .undef) K
   |_=>False):=Eq.trans rfl rfl
theorem Bao:goG C o rest K ⟨sl,hp⟩=vc1 C o ⟨sl,hp⟩ (ok C rest K):=Eq.trans rfl rfl
theorem Apq:skG C o rest K ⟨sl,hp⟩=Es C rest (St.put ⟨sl,hp⟩ o.d .undef) K:=Eq.trans rfl rfl
theorem A4u {x:AX}:pk o x K ⟨sl,hp⟩=K (St.put ⟨sl,hp⟩ o.d (St.get ⟨sl,hp⟩ x)):=Eq.trans rfl rfl
theorem Azl {x:AX}:pkD o x KD ⟨sl,hp⟩=KD (St.put ⟨sl,hp⟩ o.d (St.get ⟨sl,hp⟩ x)) True:=Eq.trans rfl rfl
theorem A6q {d:Option Nat} {g:Option (Nat×Bool)} {fp:Bool} {chk:List Nat} {f:Nat} {args:List AX}:vc1 C ⟨d,.call f args,g,id,fp,chk⟩ ⟨sl,hp⟩ K=(match Cz hp (args.map (St.get ⟨sl,hp⟩)) with
  |some (vs,h)=>Yk C f vs (Ad7 sl h d K)
  |none=>False):=Eq.trans rfl rfl
theorem Aq7 {d:Option Nat} {g:Option (Nat×Bool)} {fp:Bool} {chk fs:List Nat} {x:AX} {args:List AX}:vc1 C ⟨d,.callv fs x args,g,id,fp,chk⟩ ⟨sl,hp⟩ K=(match St.get ⟨sl,hp⟩ x with
  |.fn f=>if fs.contains f then (match Cz hp (args.map (St.get ⟨sl,hp⟩)) with
   |some (vs,h)=>Yk C f vs (Ad7 sl h d K)
   |none=>False) else False
  |_=>False):=Eq.trans rfl rfl
theorem As4 {d:Option Nat} {g:Option (Nat×Bool)} {fp:Bool} {chk:List Nat} {c x y:AX}:vc1 C ⟨d,.pick c x y,g,id,fp,chk⟩ ⟨sl,hp⟩ K=(match St.get ⟨sl,hp⟩ c with
  |.bool t=>gs t ⟨sl,hp⟩ (pk ⟨d,.pick c x y,g,id,fp,chk⟩ x K) (pk ⟨d,.pick c x y,g,id,fp,chk⟩ y K)
  |_=>False):=Eq.trans rfl rfl
theorem Bd5 {d:Option Nat} {g:Option (Nat×Bool)} {fp:Bool} {chk:List Nat} {f:Nat} {args:List AX}:vc1 C ⟨d,.hcall f args,g,id,fp,chk⟩ ⟨sl,hp⟩ K=(match Cz hp (args.map (St.get ⟨sl,hp⟩)) with
  |some (vs,h)=>(match gOf h with
   |some G=>Aau C true f G vs True (Alv sl h d K)
   |none=>False)
  |none=>False):=by
 show (match Cz hp (args.map (St.get ⟨sl,hp⟩)) with
  |some (vs,h)=>(match gOf h with
   |some G=>∃T,C.q f G vs T/\∀out G',T out G'->(match out with|.ret r=>K (St.put ⟨sl,h.set 0 (gOb G')⟩ d r)|.pan x=>C.x x G')
   |none=>False)
  |none=>False)=_
 cases Cz hp (args.map (St.get ⟨sl,hp⟩)) with
 |none=>rfl
 |some q=>
  obtain⟨vs,h⟩:=q;simp only;cases gOf h with
  |none=>rfl
  |some G=>
   refine propext ⟨fun ⟨T,h1,h2⟩=>⟨T,h1,fun out G' ho=>?_⟩,fun ⟨T,h1,h2⟩=>⟨T,h1,fun out G' ho=>?_⟩⟩
   ·have h3:=h2 out G' ho;cases out with
    |ret r=>exact h3
    |pan x=>exact⟨trivial,h3⟩
   ·have h3:=h2 out G' ho;cases out with
    |ret r=>exact h3
    |pan x=>exact h3.2
theorem Axy {d:Option Nat} {g:Option (Nat×Bool)} {fp:Bool} {chk:List Nat} {f:Nat} {args:List AX}:Cg C ⟨d,.hcall f args,g,id,fp,chk⟩ ⟨sl,hp⟩ KD=(match Cz hp (args.map (St.get ⟨sl,hp⟩)) with
  |some (vs,h)=>(match gOf h with
   |some G=>Aau C false f G vs (chk.contains id=true) (Al8 sl h d KD)
   |none=>False)
  |none=>False):=Eq.trans rfl rfl
theorem A2h {d:Option Nat} {g:Option (Nat×Bool)} {fp:Bool} {chk:List Nat} {x:AX}:vc1 C ⟨d,.pan x,g,id,fp,chk⟩ ⟨sl,hp⟩ K=(match St.get ⟨sl,hp⟩ x with
  |.ife t=>(match gOf hp with
   |some G=>C.x (.ife t) G
   |none=>False)
  |_=>False):=Eq.trans rfl rfl
def Ef (o:Option Eff) (sl:List SV) (d:Option Nat) (K:St->Prop):Prop:=match o with
 |some e=>e.ob/\(e.as->K (St.put ⟨sl,e.hp⟩ d e.val))
 |none=>False
def Eg (o:Option Eff) (sl:List SV) (d:Option Nat) (K:St->Prop->Prop):Prop:=match o with
 |some e=>e.ob/\K (St.put ⟨sl,e.hp⟩ d e.val) e.as
 |none=>False
theorem Azc {e:Eff} {d:Option Nat}:Ef (some e) sl d K=(e.ob/\(e.as->K (St.put ⟨sl,e.hp⟩ d e.val))):=Eq.trans rfl rfl
theorem Beb {d:Option Nat}:Ef none sl d K=False:=Eq.trans rfl rfl
theorem A1b {e:Eff} {d:Option Nat}:Eg (some e) sl d KD=(e.ob/\KD (St.put ⟨sl,e.hp⟩ d e.val) e.as):=Eq.trans rfl rfl
theorem Bbb {d:Option Nat}:Eg none sl d KD=False:=Eq.trans rfl rfl
theorem A4j {d:Option Nat} {g:Option (Nat×Bool)} {fp:Bool} {chk:List Nat} (x:AX):vc1 C ⟨d,.mv x,g,id,fp,chk⟩ ⟨sl,hp⟩ K=Ef (Ai ⟨sl,hp⟩ (.mv x)) sl d K:=Eq.trans rfl rfl
theorem Ayl {d:Option Nat} {g:Option (Nat×Bool)} {fp:Bool} {chk:List Nat} (x:AX):Cg C ⟨d,.mv x,g,id,fp,chk⟩ ⟨sl,hp⟩ KD=Eg (Ai ⟨sl,hp⟩ (.mv x)) sl d KD:=Eq.trans rfl rfl
theorem A1f {d:Option Nat} {g:Option (Nat×Bool)} {fp:Bool} {chk:List Nat} (cells:List SV):vc1 C ⟨d,.new cells,g,id,fp,chk⟩ ⟨sl,hp⟩ K=Ef (Ai ⟨sl,hp⟩ (.new cells)) sl d K:=Eq.trans rfl rfl
theorem A7a {d:Option Nat} {g:Option (Nat×Bool)} {fp:Bool} {chk:List Nat} (cells:List SV):Cg C ⟨d,.new cells,g,id,fp,chk⟩ ⟨sl,hp⟩ KD=Eg (Ai ⟨sl,hp⟩ (.new cells)) sl d KD:=Eq.trans rfl rfl
theorem Ar8 {d:Option Nat} {g:Option (Nat×Bool)} {fp:Bool} {chk:List Nat} (x:AX):vc1 C ⟨d,.box x,g,id,fp,chk⟩ ⟨sl,hp⟩ K=Ef (Ai ⟨sl,hp⟩ (.box x)) sl d K:=Eq.trans rfl rfl
theorem Apt {d:Option Nat} {g:Option (Nat×Bool)} {fp:Bool} {chk:List Nat} (x:AX):Cg C ⟨d,.box x,g,id,fp,chk⟩ ⟨sl,hp⟩ KD=Eg (Ai ⟨sl,hp⟩ (.box x)) sl d KD:=Eq.trans rfl rfl
theorem A1p {d:Option Nat} {g:Option (Nat×Bool)} {fp:Bool} {chk:List Nat} (z:List SV) (ps:List (Nat×Nat×AX)):vc1 C ⟨d,.build z ps,g,id,fp,chk⟩ ⟨sl,hp⟩ K=Ef (Ai ⟨sl,hp⟩ (.build z ps)) sl d K:=Eq.trans rfl rfl
theorem A2p {d:Option Nat} {g:Option (Nat×Bool)} {fp:Bool} {chk:List Nat} (z:List SV) (ps:List (Nat×Nat×AX)):Cg C ⟨d,.build z ps,g,id,fp,chk⟩ ⟨sl,hp⟩ KD=Eg (Ai ⟨sl,hp⟩ (.build z ps)) sl d KD:=Eq.trans rfl rfl
theorem A9k {d:Option Nat} {g:Option (Nat×Bool)} {fp:Bool} {chk:List Nat} (sz:Nat) (ps:List AX):vc1 C ⟨d,.bslice sz ps,g,id,fp,chk⟩ ⟨sl,hp⟩ K=Ef (Ai ⟨sl,hp⟩ (.bslice sz ps)) sl d K:=Eq.trans rfl rfl
theorem A7x {d:Option Nat} {g:Option (Nat×Bool)} {fp:Bool} {chk:List Nat} (sz:Nat) (ps:List AX):Cg C ⟨d,.bslice sz ps,g,id,fp,chk⟩ ⟨sl,hp⟩ KD=Eg (Ai ⟨sl,hp⟩ (.bslice sz ps)) sl d KD:=Eq.trans rfl rfl
theorem Bel {d:Option Nat} {g:Option (Nat×Bool)} {fp:Bool} {chk:List Nat} (ag:Bool) (n:Nat) (x:AX):vc1 C ⟨d,.load ag n x,g,id,fp,chk⟩ ⟨sl,hp⟩ K=Ef (Ai ⟨sl,hp⟩ (.load ag n x)) sl d K:=Eq.trans rfl rfl
theorem A3w {d:Option Nat} {g:Option (Nat×Bool)} {fp:Bool} {chk:List Nat} (ag:Bool) (n:Nat) (x:AX):Cg C ⟨d,.load ag n x,g,id,fp,chk⟩ ⟨sl,hp⟩ KD=Eg (Ai ⟨sl,hp⟩ (.load ag n x)) sl d KD:=Eq.trans rfl rfl
theorem A0z {d:Option Nat} {g:Option (Nat×Bool)} {fp:Bool} {chk:List Nat} (n:Nat) (x y:AX):vc1 C ⟨d,.store n x y,g,id,fp,chk⟩ ⟨sl,hp⟩ K=Ef (Ai ⟨sl,hp⟩ (.store n x y)) sl d K:=Eq.trans rfl rfl
theorem Awj {d:Option Nat} {g:Option (Nat×Bool)} {fp:Bool} {chk:List Nat} (n:Nat) (x y:AX):Cg C ⟨d,.store n x y,g,id,fp,chk⟩ ⟨sl,hp⟩ KD=Eg (Ai ⟨sl,hp⟩ (.store n x y)) sl d KD:=Eq.trans rfl rfl
theorem Azi {d:Option Nat} {g:Option (Nat×Bool)} {fp:Bool} {chk:List Nat} (x:AX):vc1 C ⟨d,.nilck x,g,id,fp,chk⟩ ⟨sl,hp⟩ K=Ef (Ai ⟨sl,hp⟩ (.nilck x)) sl d K:=Eq.trans rfl rfl
theorem Bbk {d:Option Nat} {g:Option (Nat×Bool)} {fp:Bool} {chk:List Nat} (x:AX):Cg C ⟨d,.nilck x,g,id,fp,chk⟩ ⟨sl,hp⟩ KD=Eg (Ai ⟨sl,hp⟩ (.nilck x)) sl d KD:=Eq.trans rfl rfl
theorem A5a {d:Option Nat} {g:Option (Nat×Bool)} {fp:Bool} {chk:List Nat} (kd:Nat) (op:BinOp) (x y:AX):vc1 C ⟨d,.bin kd op x y,g,id,fp,chk⟩ ⟨sl,hp⟩ K=(match Fr kd op (St.get ⟨sl,hp⟩ x) (St.get ⟨sl,hp⟩ y) with
 |some (va,vb)=>(C.b (St.get ⟨sl,hp⟩ x) (St.get ⟨sl,hp⟩ y)->K (St.put ⟨sl,hp⟩ d va))/\K (St.put ⟨sl,hp⟩ d vb)
 |none=>Ef (Ai ⟨sl,hp⟩ (.bin kd op x y)) sl d K):=Eq.trans rfl rfl
theorem Aos {d:Option Nat} {g:Option (Nat×Bool)} {fp:Bool} {chk:List Nat} (kd:Nat) (op:BinOp) (x y:AX):Cg C ⟨d,.bin kd op x y,g,id,fp,chk⟩ ⟨sl,hp⟩ KD=Eg (Ai ⟨sl,hp⟩ (.bin kd op x y)) sl d KD:=Eq.trans rfl rfl
theorem Aqc {d:Option Nat} {g:Option (Nat×Bool)} {fp:Bool} {chk:List Nat} (op:UnOp) (x:AX):vc1 C ⟨d,.un op x,g,id,fp,chk⟩ ⟨sl,hp⟩ K=Ef (Ai ⟨sl,hp⟩ (.un op x)) sl d K:=Eq.trans rfl rfl
theorem Bb0 {d:Option Nat} {g:Option (Nat×Bool)} {fp:Bool} {chk:List Nat} (op:UnOp) (x:AX):Cg C ⟨d,.un op x,g,id,fp,chk⟩ ⟨sl,hp⟩ KD=Eg (Ai ⟨sl,hp⟩ (.un op x)) sl d KD:=Eq.trans rfl rfl
theorem A0w {d:Option Nat} {g:Option (Nat×Bool)} {fp:Bool} {chk:List Nat} (k:IntKind) (x:AX):vc1 C ⟨d,.conv k x,g,id,fp,chk⟩ ⟨sl,hp⟩ K=Ef (Ai ⟨sl,hp⟩ (.conv k x)) sl d K:=Eq.trans rfl rfl
theorem A1d {d:Option Nat} {g:Option (Nat×Bool)} {fp:Bool} {chk:List Nat} (k:IntKind) (x:AX):Cg C ⟨d,.conv k x,g,id,fp,chk⟩ ⟨sl,hp⟩ KD=Eg (Ai ⟨sl,hp⟩ (.conv k x)) sl d KD:=Eq.trans rfl rfl
theorem Bhq {d:Option Nat} {g:Option (Nat×Bool)} {fp:Bool} {chk:List Nat} (k:FloatKind) (x:AX):vc1 C ⟨d,.i2f k x,g,id,fp,chk⟩ ⟨sl,hp⟩ K=Ef (Ai ⟨sl,hp⟩ (.i2f k x)) sl d K:=Eq.trans rfl rfl
theorem Bhp {d:Option Nat} {g:Option (Nat×Bool)} {fp:Bool} {chk:List Nat} (k:FloatKind) (x:AX):Cg C ⟨d,.i2f k x,g,id,fp,chk⟩ ⟨sl,hp⟩ KD=Eg (Ai ⟨sl,hp⟩ (.i2f k x)) sl d KD:=Eq.trans rfl rfl
theorem Asu {d:Option Nat} {g:Option (Nat×Bool)} {fp:Bool} {chk:List Nat} (sz by_:Nat) (z:List SV) (x y:AX):vc1 C ⟨d,.mk sz by_ z x y,g,id,fp,chk⟩ ⟨sl,hp⟩ K=Ef (Ai ⟨sl,hp⟩ (.mk sz by_ z x y)) sl d K:=Eq.trans rfl rfl
theorem Ayy {d:Option Nat} {g:Option (Nat×Bool)} {fp:Bool} {chk:List Nat} (sz by_:Nat) (z:List SV) (x y:AX):Cg C ⟨d,.mk sz by_ z x y,g,id,fp,chk⟩ ⟨sl,hp⟩ KD=Eg (Ai ⟨sl,hp⟩ (.mk sz by_ z x y)) sl d KD:=Eq.trans rfl rfl
theorem A5r {d:Option Nat} {g:Option (Nat×Bool)} {fp:Bool} {chk:List Nat} (z:Nat) (x:AX) (lo hi:Option AX):vc1 C ⟨d,.slc z x lo hi,g,id,fp,chk⟩ ⟨sl,hp⟩ K=Ef (Ai ⟨sl,hp⟩ (.slc z x lo hi)) sl d K:=Eq.trans rfl rfl
theorem Bff {d:Option Nat} {g:Option (Nat×Bool)} {fp:Bool} {chk:List Nat} (z:Nat) (x:AX) (lo hi:Option AX):Cg C ⟨d,.slc z x lo hi,g,id,fp,chk⟩ ⟨sl,hp⟩ KD=Eg (Ai ⟨sl,hp⟩ (.slc z x lo hi)) sl d KD:=Eq.trans rfl rfl
theorem A2y {d:Option Nat} {g:Option (Nat×Bool)} {fp:Bool} {chk:List Nat} (off:Nat) (x:AX):vc1 C ⟨d,.fad off x,g,id,fp,chk⟩ ⟨sl,hp⟩ K=Ef (Ai ⟨sl,hp⟩ (.fad off x)) sl d K:=Eq.trans rfl rfl
theorem Ayv {d:Option Nat} {g:Option (Nat×Bool)} {fp:Bool} {chk:List Nat} (off:Nat) (x:AX):Cg C ⟨d,.fad off x,g,id,fp,chk⟩ ⟨sl,hp⟩ KD=Eg (Ai ⟨sl,hp⟩ (.fad off x)) sl d KD:=Eq.trans rfl rfl
theorem Az8 {d:Option Nat} {g:Option (Nat×Bool)} {fp:Bool} {chk:List Nat} (ag:Bool) (off n:Nat) (x:AX):vc1 C ⟨d,.fld ag off n x,g,id,fp,chk⟩ ⟨sl,hp⟩ K=Ef (Ai ⟨sl,hp⟩ (.fld ag off n x)) sl d K:=Eq.trans rfl rfl
theorem Arl {d:Option Nat} {g:Option (Nat×Bool)} {fp:Bool} {chk:List Nat} (ag:Bool) (off n:Nat) (x:AX):Cg C ⟨d,.fld ag off n x,g,id,fp,chk⟩ ⟨sl,hp⟩ KD=Eg (Ai ⟨sl,hp⟩ (.fld ag off n x)) sl d KD:=Eq.trans rfl rfl
theorem Bbd {d:Option Nat} {g:Option (Nat×Bool)} {fp:Bool} {chk:List Nat} (sz:Nat) (x y:AX):vc1 C ⟨d,.iad sz x y,g,id,fp,chk⟩ ⟨sl,hp⟩ K=Ef (Ai ⟨sl,hp⟩ (.iad sz x y)) sl d K:=Eq.trans rfl rfl
theorem Aux {d:Option Nat} {g:Option (Nat×Bool)} {fp:Bool} {chk:List Nat} (sz:Nat) (x y:AX):Cg C ⟨d,.iad sz x y,g,id,fp,chk⟩ ⟨sl,hp⟩ KD=Eg (Ai ⟨sl,hp⟩ (.iad sz x y)) sl d KD:=Eq.trans rfl rfl
theorem Aw8 {d:Option Nat} {g:Option (Nat×Bool)} {fp:Bool} {chk:List Nat} (st:Bool) (x:AX):vc1 C ⟨d,.len st x,g,id,fp,chk⟩ ⟨sl,hp⟩ K=Ef (Ai ⟨sl,hp⟩ (.len st x)) sl d K:=Eq.trans rfl rfl
theorem A9x {d:Option Nat} {g:Option (Nat×Bool)} {fp:Bool} {chk:List Nat} (st:Bool) (x:AX):Cg C ⟨d,.len st x,g,id,fp,chk⟩ ⟨sl,hp⟩ KD=Eg (Ai ⟨sl,hp⟩ (.len st x)) sl d KD:=Eq.trans rfl rfl
theorem A4v {d:Option Nat} {g:Option (Nat×Bool)} {fp:Bool} {chk:List Nat} (sz by_:Nat) (x y:AX):vc1 C ⟨d,.app sz by_ x y,g,id,fp,chk⟩ ⟨sl,hp⟩ K=Ef (Ai ⟨sl,hp⟩ (.app sz by_ x y)) sl d K:=Eq.trans rfl rfl
theorem Aqk {d:Option Nat} {g:Option (Nat×Bool)} {fp:Bool} {chk:List Nat} (sz by_:Nat) (x y:AX):Cg C ⟨d,.app sz by_ x y,g,id,fp,chk⟩ ⟨sl,hp⟩ KD=Eg (Ai ⟨sl,hp⟩ (.app sz by_ x y)) sl d KD:=Eq.trans rfl rfl
theorem Aox {d:Option Nat} {g:Option (Nat×Bool)} {fp:Bool} {chk:List Nat} (x:AX) (i:Nat):vc1 C ⟨d,.ext x i,g,id,fp,chk⟩ ⟨sl,hp⟩ K=Ef (Ai ⟨sl,hp⟩ (.ext x i)) sl d K:=Eq.trans rfl rfl
theorem A4l {d:Option Nat} {g:Option (Nat×Bool)} {fp:Bool} {chk:List Nat} (x:AX) (i:Nat):Cg C ⟨d,.ext x i,g,id,fp,chk⟩ ⟨sl,hp⟩ KD=Eg (Ai ⟨sl,hp⟩ (.ext x i)) sl d KD:=Eq.trans rfl rfl
theorem Aug {d:Option Nat} {g:Option (Nat×Bool)} {fp:Bool} {chk:List Nat} (mx:Bool) (x y:AX):vc1 C ⟨d,.mnx mx x y,g,id,fp,chk⟩ ⟨sl,hp⟩ K=Ef (Ai ⟨sl,hp⟩ (.mnx mx x y)) sl d K:=Eq.trans rfl rfl
theorem Aqa {d:Option Nat} {g:Option (Nat×Bool)} {fp:Bool} {chk:List Nat} (mx:Bool) (x y:AX):Cg C ⟨d,.mnx mx x y,g,id,fp,chk⟩ ⟨sl,hp⟩ KD=Eg (Ai ⟨sl,hp⟩ (.mnx mx x y)) sl d KD:=Eq.trans rfl rfl
theorem Bfo {d:Option Nat} {g:Option (Nat×Bool)} {fp:Bool} {chk:List Nat} (cells:List SV):vc1 C ⟨d,.newg cells,g,id,fp,chk⟩ ⟨sl,hp⟩ K=Ef (Ai ⟨sl,hp⟩ (.newg cells)) sl d K:=Eq.trans rfl rfl
theorem Ba8 {d:Option Nat} {g:Option (Nat×Bool)} {fp:Bool} {chk:List Nat} (cells:List SV):Cg C ⟨d,.newg cells,g,id,fp,chk⟩ ⟨sl,hp⟩ KD=Eg (Ai ⟨sl,hp⟩ (.newg cells)) sl d KD:=Eq.trans rfl rfl
theorem A7i {d:Option Nat} {g:Option (Nat×Bool)} {fp:Bool} {chk:List Nat} (x:AX):vc1 C ⟨d,.boxg x,g,id,fp,chk⟩ ⟨sl,hp⟩ K=Ef (Ai ⟨sl,hp⟩ (.boxg x)) sl d K:=Eq.trans rfl rfl
theorem Aui {d:Option Nat} {g:Option (Nat×Bool)} {fp:Bool} {chk:List Nat} (x:AX):Cg C ⟨d,.boxg x,g,id,fp,chk⟩ ⟨sl,hp⟩ KD=Eg (Ai ⟨sl,hp⟩ (.boxg x)) sl d KD:=Eq.trans rfl rfl
theorem Aoa {d:Option Nat} {g:Option (Nat×Bool)} {fp:Bool} {chk:List Nat} :vc1 C ⟨d,.mkmap,g,id,fp,chk⟩ ⟨sl,hp⟩ K=Ef (Ai ⟨sl,hp⟩ .mkmap) sl d K:=Eq.trans rfl rfl
theorem Ba6 {d:Option Nat} {g:Option (Nat×Bool)} {fp:Bool} {chk:List Nat} (x i:AX):vc1 C ⟨d,.six x i,g,id,fp,chk⟩ ⟨sl,hp⟩ K=Ef (Ai ⟨sl,hp⟩ (.six x i)) sl d K:=Eq.trans rfl rfl
theorem Arp {d:Option Nat} {g:Option (Nat×Bool)} {fp:Bool} {chk:List Nat} (x i:AX):Cg C ⟨d,.six x i,g,id,fp,chk⟩ ⟨sl,hp⟩ KD=Eg (Ai ⟨sl,hp⟩ (.six x i)) sl d KD:=Eq.trans rfl rfl
theorem Bfq {d:Option Nat} {g:Option (Nat×Bool)} {fp:Bool} {chk:List Nat} (ps:List AX):vc1 C ⟨d,.arr ps,g,id,fp,chk⟩ ⟨sl,hp⟩ K=Ef (Ai ⟨sl,hp⟩ (.arr ps)) sl d K:=Eq.trans rfl rfl
theorem Bey {d:Option Nat} {g:Option (Nat×Bool)} {fp:Bool} {chk:List Nat} (ps:List AX):Cg C ⟨d,.arr ps,g,id,fp,chk⟩ ⟨sl,hp⟩ KD=Eg (Ai ⟨sl,hp⟩ (.arr ps)) sl d KD:=Eq.trans rfl rfl
theorem As2 {d:Option Nat} {g:Option (Nat×Bool)} {fp:Bool} {chk:List Nat} (z:SV) (x k:AX):vc1 C ⟨d,.mlk z x k,g,id,fp,chk⟩ ⟨sl,hp⟩ K=Ef (Ai ⟨sl,hp⟩ (.mlk z x k)) sl d K:=Eq.trans rfl rfl
theorem Ba1 {d:Option Nat} {g:Option (Nat×Bool)} {fp:Bool} {chk:List Nat} (z:SV) (x k:AX):Cg C ⟨d,.mlk z x k,g,id,fp,chk⟩ ⟨sl,hp⟩ KD=Eg (Ai ⟨sl,hp⟩ (.mlk z x k)) sl d KD:=Eq.trans rfl rfl
theorem Baw {d:Option Nat} {g:Option (Nat×Bool)} {fp:Bool} {chk:List Nat} (x k v:AX):vc1 C ⟨d,.mup x k v,g,id,fp,chk⟩ ⟨sl,hp⟩ K=Ef (Ai ⟨sl,hp⟩ (.mup x k v)) sl d K:=Eq.trans rfl rfl
theorem Aq8 {d:Option Nat} {g:Option (Nat×Bool)} {fp:Bool} {chk:List Nat} (x k v:AX):Cg C ⟨d,.mup x k v,g,id,fp,chk⟩ ⟨sl,hp⟩ KD=Eg (Ai ⟨sl,hp⟩ (.mup x k v)) sl d KD:=Eq.trans rfl rfl
theorem Ao5 {d:Option Nat} {g:Option (Nat×Bool)} {fp:Bool} {chk:List Nat} :Cg C ⟨d,.mkmap,g,id,fp,chk⟩ ⟨sl,hp⟩ KD=Eg (Ai ⟨sl,hp⟩ .mkmap) sl d KD:=Eq.trans rfl rfl
theorem Bdy {d:Option Nat} {g:Option (Nat×Bool)} {fp:Bool} {chk:List Nat} (t:Nat) (x:AX):vc1 C ⟨d,.ifc t x,g,id,fp,chk⟩ ⟨sl,hp⟩ K=Ef (Ai ⟨sl,hp⟩ (.ifc t x)) sl d K:=Eq.trans rfl rfl
theorem Azx {d:Option Nat} {g:Option (Nat×Bool)} {fp:Bool} {chk:List Nat} (t:Nat) (x:AX):Cg C ⟨d,.ifc t x,g,id,fp,chk⟩ ⟨sl,hp⟩ KD=Eg (Ai ⟨sl,hp⟩ (.ifc t x)) sl d KD:=Eq.trans rfl rfl
theorem Ats:Fb C [] s fps p K=(p->K s):=Eq.trans rfl rfl
theorem A2v:okD C o rest s fps p K ⟨sl,hp⟩ q=(Qy o s fps ⟨sl,hp⟩/\Fb C rest ⟨sl,hp⟩ (if o.fp then (o.id,o.op,s)::fps else fps) (p/\q) K):=Eq.trans rfl rfl
theorem Arq {d:Option Nat} {op:AOp} {id:Nat} {fp:Bool} {chk:List Nat}:Fb C (⟨d,op,none,id,fp,chk⟩::rest) ⟨sl,hp⟩ fps p K=(clear ⟨d,op,none,id,fp,chk⟩ ⟨sl,hp⟩ fps/\Cg C ⟨d,op,none,id,fp,chk⟩ ⟨sl,hp⟩ (okD C ⟨d,op,none,id,fp,chk⟩ rest ⟨sl,hp⟩ fps p K)):=Eq.trans rfl rfl
theorem Ayb {d:Option Nat} {op:AOp} {t:Nat} {w:Bool} {id:Nat} {fp:Bool} {chk:List Nat}:Fb C (⟨d,op,some (t,w),id,fp,chk⟩::rest) ⟨sl,hp⟩ fps p K =
  (match sl.getD t .undef with
   |.bool b=>gs (b==w) ⟨sl,hp⟩ (goD C ⟨d,op,some (t,w),id,fp,chk⟩ rest fps p K) (skD C ⟨d,op,some (t,w),id,fp,chk⟩ rest fps p K)
   |.undef=>Fb C rest (St.put ⟨sl,hp⟩ d .undef) fps p K
   |_=>False):=Eq.trans rfl rfl
theorem A3j:goD C o rest fps p K ⟨sl,hp⟩=(clear o ⟨sl,hp⟩ fps/\Cg C o ⟨sl,hp⟩ (okD C o rest ⟨sl,hp⟩ fps p K)):=Eq.trans rfl rfl
theorem A9p:skD C o rest fps p K ⟨sl,hp⟩=Fb C rest (St.put ⟨sl,hp⟩ o.d .undef) fps p K:=Eq.trans rfl rfl
theorem A0q {d:Option Nat} {g:Option (Nat×Bool)} {fp:Bool} {chk:List Nat} {f:Nat} {args:List AX}:Cg C ⟨d,.call f args,g,id,fp,chk⟩ ⟨sl,hp⟩ KD=(match Cz hp (args.map (St.get ⟨sl,hp⟩)) with
  |some (vs,h)=>Yk C f vs (Aec sl h d KD)
  |none=>False):=Eq.trans rfl rfl
theorem Aya {d:Option Nat} {g:Option (Nat×Bool)} {fp:Bool} {chk fs:List Nat} {x:AX} {args:List AX}:Cg C ⟨d,.callv fs x args,g,id,fp,chk⟩ ⟨sl,hp⟩ KD=(match St.get ⟨sl,hp⟩ x with
  |.fn f=>if fs.contains f then (match Cz hp (args.map (St.get ⟨sl,hp⟩)) with
   |some (vs,h)=>Yk C f vs (Aec sl h d KD)
   |none=>False) else False
  |_=>False):=Eq.trans rfl rfl
theorem Asl {d:Option Nat} {g:Option (Nat×Bool)} {fp:Bool} {chk:List Nat} {c x y:AX}:Cg C ⟨d,.pick c x y,g,id,fp,chk⟩ ⟨sl,hp⟩ KD=(match St.get ⟨sl,hp⟩ c with
  |.bool t=>gs t ⟨sl,hp⟩ (pkD ⟨d,.pick c x y,g,id,fp,chk⟩ x KD) (pkD ⟨d,.pick c x y,g,id,fp,chk⟩ y KD)
  |_=>False):=Eq.trans rfl rfl
theorem Avr {i:Nat}:St.get ⟨sl,hp⟩ (.t i)=sl.getD i .undef:=Eq.trans rfl rfl
theorem Avg {v:SV}:St.get s (.c v)=v:=Eq.trans rfl rfl
theorem Ax5 {i:Nat} {v:SV}:St.put ⟨sl,hp⟩ (some i) v=⟨sl.set i v,hp⟩:=Eq.trans rfl rfl
theorem A9w {v:SV}:St.put ⟨sl,hp⟩ none v=⟨sl,hp⟩:=Eq.trans rfl rfl
theorem Awb {v:SV}:St.val ⟨sl,hp⟩ (some v)=some { ob:=True,val:=v,hp:=hp }:=Eq.trans rfl rfl
theorem Bbi:St.val ⟨sl,hp⟩ none=none:=Eq.trans rfl rfl
end
theorem least (p:Nat->Prop):∀n:Nat,∃x,x<=n/\(x=n\/p x)/\∀y,y<x->¬p y:=by
 intro n
 induction n with
 |zero=>exact⟨0,Nat.le_refl _,.inl rfl,fun y hy=>by omega⟩
 |succ n ih=>
  obtain⟨x,h1,h2,h3⟩:=ih
  by_cases hp:p x
  ·exact⟨x,by omega,.inr hp,h3⟩
  ·rcases h2 with rfl|h2
   ·refine⟨x+1,Nat.le_refl _,.inl rfl,fun y hy=>?_⟩
    by_cases Nj:y=x
    ·subst Nj;exact hp
    ·exact h3 y (by omega)
   ·exact absurd h2 hp
theorem w64 {n:Int} (h:fit n):IntKind.i64.wrap n=n:=by
 unfold fit at h;rw [IntKind.wrap_i64];omega
def lq (S:Nat->St) (n i:Nat) (Q:AE->St->Prop):AE->St->Prop:=fun e s'=>match e with|.normal=>i<n/\Wk s' (S (i+1))|e=>Q e s'
theorem lq_n {S:Nat->St} {n i:Nat} {Q:AE->St->Prop} {s:St}:lq S n i Q .normal s=(i<n/\Wk s (S (i+1))):=Eq.trans rfl rfl
theorem lq_e {S:Nat->St} {n i j:Nat} {Q:AE->St->Prop} {s:St}:lq S n i Q (.exit j) s=Q (.exit j) s:=Eq.trans rfl rfl
theorem lq_r {S:Nat->St} {n i:Nat} {Q:AE->St->Prop} {s:St}:lq S n i Q .ret s=Q .ret s:=Eq.trans rfl rfl
theorem Ig {C:CT} {b:AC} {Q:AE->St->Prop} (S:Nat->St) (n:Nat) (Ow:∀i,i<=n->vc C b (lq S n i Q) (S i)) {s:St} (h0:Wk s (S 0)):vc C (.loop b) Q s:=by
 refine Adn (fun m s=>∃i,i<=n/\m=n-i/\Wk s (S i)) (fun m s hI=>?_) n s ⟨0,Nat.zero_le _,rfl,h0⟩;obtain⟨i,hi,rfl,hw⟩:=hI;refine⟨S i,hw,Uw (fun e s' he=>?_) (Ow i hi)⟩;cases e with
 |normal=>exact⟨n-(i+1),by have:=he.1;omega,i+1,he.1,rfl,he.2⟩
 |exit id=>exact he
 |ret=>exact he
theorem Asz {cells:List SV}:fill cells []=cells:=rfl
theorem A3q {z z2:SV} {cells:List SV} {off:Nat} {v:SV} {r:List (Nat×Nat×SV)}:fill (z::z2::cells) ((off,1,v)::r)=fill ((z::z2::cells).set off ((cellsOf v).getD 0 .undef)) r:=by
 simp only [fill,Dv,List.length_cons];rw [if_neg (by omega),if_pos trivial]
theorem Bcv {cl:Bool} {n c:Nat} {cells:List SV}:cut cl n true n c cells=.agg cl cells:=by simp [cut]
theorem A9e {cl:Bool} {sz n c:Nat} {cells:List SV}:cut cl sz false n c cells=cells.getD c .undef:=by simp [cut]
theorem Aoh {n c:Nat} {cells new:List SV}:Dv n n c cells new=new:=by simp [Dv]
theorem Lp {sz c:Nat} {cells new:List SV}:Dv (sz+2) 1 c cells new=cells.set c (new.getD 0 .undef):=by simp [Dv]
theorem Axu {cl:Bool} {c:Nat} {cells:List SV}:cut cl 26 true 5 c cells=.agg cl ((cells.drop c).take 5):=by simp [cut]
def hv (i:Int) (a b x y h:Tm):List SV:=.int .i64 i::(tv a++(tv b++(tv x++(tv y++tv h))))
theorem Qp (t:Tm):tv t=[.int .i64 t.k,.int .i64 t.i,.int .i64 t.j,.int .i64 t.n,.dsl 5 (t.kids.map tv)]:=by cases t;rw [Am];rfl
section
variable {i:Int} {a b x y h:Tm}
theorem hv_0:(hv i a b x y h)[0]?=some (.int .i64 i):=rfl
theorem Bcs:(hv i a b x y h).length=26:=by simp [hv,Ag]
theorem hv_a:((hv i a b x y h).drop 1).take 5=tv a:=by simp [hv,Qp]
theorem hv_b:((hv i a b x y h).drop 6).take 5=tv b:=by simp [hv,Qp]
theorem hv_x:((hv i a b x y h).drop 11).take 5=tv x:=by simp [hv,Qp]
theorem hv_y:((hv i a b x y h).drop 16).take 5=tv y:=by simp [hv,Qp]
theorem hv_h:((hv i a b x y h).drop 21).take 5=tv h:=by simp [hv,Qp]
theorem Bbx:fill [.int .i64 i,.int .i64 0,.int .i64 0,.int .i64 0,.int .i64 0,.nils,.int .i64 0,.int .i64 0,.int .i64 0,.int .i64 0,.nils,.int .i64 0,.int .i64 0,.int .i64 0,.int .i64 0,.nils,.int .i64 0,.int .i64 0,.int .i64 0,.int .i64 0,.nils,.int .i64 0,.int .i64 0,.int .i64 0,.int .i64 0,.nils]
  [(1,5,.agg true (tv a)),(6,5,.agg true (tv b)),(11,5,.agg true (tv x)),(16,5,.agg true (tv y)),(21,5,.agg true (tv h))]=hv i a b x y h:=by
 simp [fill,Dv,cellsOf,hv,Qp]
end
def Ao:List SV->List SV->Prop
 |[],[]=>True
 |a::l,b::r=>(a=.jk\/a=b)/\Ao l r
 |_,_=>False
theorem As5:∀{l r:List SV},Ao l r->l.length=r.length/\∀(i:Nat) (v:SV),l[i]?=some v->v=SV.jk\/r[i]?=some v:=by
 intro l
 induction l with
 |nil=>intro r h;cases r with
  |nil=>simp
  |cons b r=>exact h.elim
 |cons a l ih=>
  intro r h;cases r with
  |nil=>exact h.elim
  |cons b r=>
   obtain⟨h1,h2⟩:=ih h.2;refine⟨by simp [h1],fun i v hv=>?_⟩;cases i with
   |zero=>
    simp at hv;subst hv;rcases h.1 with h|h
    ·exact .inl h
    ·exact .inr (by simp [h])
   |succ i=>simpa using h2 i v (by simpa using hv)
theorem As {l r:List SV} {hp:List Ob} (h:Ao l r):Wk ⟨r,hp⟩ ⟨l,hp⟩:=by
 obtain⟨h1,h2⟩:=As5 h;exact .slots ⟨r,hp⟩ l h1 h2
theorem Do {l r:List SV} {hp hq:List Ob} (n:Nat) (h:Ao l r) (hn:hq.take n=hp) (h1:∀v∈l,Be n v=true) (h2:∀ob∈hp,ob.box=true->ob.cl=false->∀r∈ob.els,∀x∈r,Be n x=true) (h3:(gOf hq).isSome=true->0<n:=by simp [gOf,gOb]) (h4:∀ob∈hq.drop n,ob.gen<777:=by simp):Wk ⟨r,hq⟩ ⟨l,hp⟩:=by
 subst hn;exact .trans (As h) (.trunc ⟨l,hq⟩ n h3 h1 h2 h4)
end Go.Proofs.YtdpigpopcbjkmaaGreatDoor.Abs
