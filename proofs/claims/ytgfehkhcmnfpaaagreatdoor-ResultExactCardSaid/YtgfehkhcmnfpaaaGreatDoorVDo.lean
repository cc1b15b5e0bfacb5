import Derived.Test.YtgfehkhcmnfpaaaGreatDoorVEv
import Derived.Defers
import Derived.Recover
set_option linter.all false
set_option maxRecDepth 20000
set_option maxHeartbeats 4000000
namespace Go.Proofs.YtgfehkhcmnfpaaaGreatDoor.Abs
open Go Go.RowKit
inductive NoG:SV->Prop
 |bool (b:Bool):NoG (.bool b)
 |int (k:IntKind) (n:Int):NoG (.int k n)
 |float (k:FloatKind) (b:Nat):NoG (.float k b)
 |str (s:ByteArray):NoG (.str s)
 |nilp:NoG .nilp
 |nils:NoG .nils
 |fn (f:Nat):NoG (.fn f)
 |dref (sz:Nat) (l:List SV) (c:Nat):(∀x∈l,NoG x)->NoG (.dref sz l c)
 |dsl (sz:Nat) (l:GV):(∀x∈l.flatten,NoG x)->NoG (.dsl sz l)
 |agg (b:Bool) (l:List SV):(∀x∈l,NoG x)->NoG (.agg b l)
 |tup (l:List SV):(∀x∈l,NoG x)->NoG (.tup l)
def Rep.swap{m m':Mem}(hc:m'.c=m.c)(hpp:∀b,m.p b->m'.p b){v:Value}{s:SV}(h:Rep m v s):NoG s->Rep m' v s:=by
 have hm:∀(l:List SV) (j:Nat) (x:SV),l[j]?=some x->x∈l:=fun l j x h=>q_jb h
 induction h with
 |bool b=>intro _;exact .bool b
 |int k n=>intro _;exact .int k n
 |float k b=>intro _;exact .float k b
 |str s=>intro _;exact .str s
 |nilp=>intro _;exact .nilp
 |nils=>intro _;exact .nils
 |fn f=>intro _;exact .fn f
 |gp i c b hb _=>intro hn;cases hn
 |mp i b hb=>intro hn;cases hn
 |nilm=>intro hn;cases hn
 |ife t=>intro hn;cases hn
 |lit A n cap=>intro hn;cases hn
 |dref sz l c b off vs h0 h1 h2 h3 hp _ ih=>
  intro hn;cases hn with
  |dref _ _ _ hl=>exact .dref sz l c b off vs h0 h1 h2 (fun j v hv=>by rw[hc];exact h3 j v hv) (fun e=>hpp _ (hp e)) (fun j v x hv hx=>ih j v x hv hx (hl x (hm _ _ _ hx)))
 |dsl0 sz A cap=>intro _;exact .dsl0 sz A cap
 |dsl sz l cap b off vs h0 h1 h2 h3 h4 h5 _ ih=>
  intro hn;cases hn with
  |dsl _ _ hl=>exact .dsl sz l cap b off vs h0 h1 h2 h3 h4 (fun j v hv=>by rw[hc];exact h5 j v hv) (fun j v x hv hx=>ih j v x hv hx (hl x (hm _ _ _ hx)))
 |agg vs l h0 h1 _ ih=>
  intro hn;cases hn with
  |agg _ _ hl=>exact .agg vs l h0 h1 (fun j v x hv hx=>ih j v x hv hx (hl x (hm _ _ _ hx)))
 |tup vs l h1 _ ih=>
  intro hn;cases hn with
  |tup _ hl=>exact .tup vs l h1 (fun j v x hv hx=>ih j v x hv hx (hl x (hm _ _ _ hx)))
def Ry(t:Tm):∀x∈tv t,NoG x:=by
 refine Tm.ind (p:=fun t=>∀x∈tv t,NoG x) (fun k i j n l ih=>?_) t;rw[Bp];intro x hx;simp only[q_kb,q_kc,or_false] at hx;rcases hx with rfl|rfl|rfl|rfl|rfl
 ·exact .int _ _
 ·exact .int _ _
 ·exact .int _ _
 ·exact .int _ _
 ·refine .dsl _ _ (fun y hy=>?_);obtain⟨r,hr,hyr⟩:=List.mem_flatten.1 hy;obtain⟨t,ht,rfl⟩:=q_kz.1 hr;exact ih t ht y hyr
def Qm(t:Tm)(b:Bool):NoG (.agg b (tv t)):=.agg _ _ (Ry t)
section
variable{P:Program}{w0:World}{own:Nat->Prop}{M0:Mem}{B:Env->Prop}{X:SV->GV->Prop}
def Va(gf:Nat)(cap:Array Value):Deferred:={ target:=.fn (.func gf) cap,args:=#[] }
def r9(t:Nat):AC:=.reg [⟨some t,.mv (.c (.bool true)),none,0,false,[]⟩,⟨none,.un .not (.t t),none,0,false,[]⟩,⟨some t,.mv (.c .J),none,0,false,[]⟩] false
inductive TrD(P:Program)(t gf k:Nat):Code->AC->Prop
 |seq (x y:Code) (ax ay:AC):trC P x=some ax->TrD P t gf k y ay->TrD P t gf k (.seq x y) (.seq ax ay)
 |door (id ty1 ty2:Nat) (p1 p2:String) (af1 af2:Array Edge) (caps:Array Operand) (y:Code) (ay:AC):caps.size=k->trC P y=some ay ->
   TrD P t gf k (.seq (.region id #[{ dst:=some t,op:=.makeFunc (.func gf) #[] caps,type:=ty1,pos:=p1,after:=af1,guard:=none },{ dst:=none,op:=.defer { callee:=.value (.tmp t),args:=#[],argTypes:=#[] },type:=ty2,pos:=p2,after:=af2,guard:=none }] false) y) (.seq (r9 t) ay)
def Ah5[hB:Nonempty (StB B)](hm:P.follows .mixedOrders=true){t gf k:Nat}{c:Code}{ac:AC}(hD:TrD P t gf k c ac):∀{QA:AE->St->Prop} {Q:Exit->Act->World->Prop},PX w0 own M0 [] X Q->(∀cap,cap.size=k->PX w0 own M0 [Va gf cap] X Q) ->
  (∀e E g s a w,SR w0 own M0 B [] E g s a w->QA e s->Q e.ex a w)->(∀cap,cap.size=k->∀e E g s a w,SR w0 own M0 B [Va gf cap] E g s a w->QA e s->Q e.ex a w) ->
  ∀E g s a w,SR w0 own M0 B [] E g s a w->vc (Eh P X) ac QA s->c.wp P Q a w:=by
 induction hD with
 |seq x y ax ay hx _ ih=>
  intro QA Q hX hX1 hQ hQ1 E g s a w hS h;simp only[vc] at h;refine wp_seq (Ww hm x ax hx (Q:=Exit.then (y.wp P Q) Q) (fun E u x G' a w=>hX E u x G' a w) (fun e E g s a w hS he=>?_) E g s a w hS h);cases e with
  |normal=>exact ih hX hX1 hQ hQ1 E g s a w hS he
  |exit id=>exact hQ (.exit id) E g s a w hS he
  |ret=>exact hQ .ret E g s a w hS he
 |door id ty1 ty2 p1 p2 af1 af2 caps y ay Nr hy=>
  intro QA Q hX hX1 hQ hQ1 E g s a w hS h;have h':t<s.sl.length/\vc (Eh P X) ay QA (s.put (some t) .J):=by
   by_cases ht:t<s.sl.length
   ·refine⟨ht,?_⟩;simpa [r9,vc,Ex,vc1,Bj,St.val,St.get,St.put,ht] using h
   ·simp[r9,vc,Ex,vc1,Bj,St.val,St.get,St.put,ht] at h
  obtain⟨ht,h'⟩:=h';have Kt:t<a.tmps.size:=by rw[<-hS.len];exact ht
  refine wp_seq (wp_region ?_);have hd:=hS.dfr;have hz:∀(u:Value),(a.put (some t) u).tmps.getD t undef=u:=fun u=>by simp[Act.put,Kt]
  simp only[List.size_toArray,q_jk,List.length_nil,q_jg,Nat.reduceAdd,List.range_succ,List.range_zero,q_km,q_kn];have hmf:∀(fn:Fn) (first cap:Array Value) (w:World),(Instr.makeFunc fn first cap).run P w=.ok (.func fn first cap) w:=fun _ _ _ _=>rfl
  have Aeo:(resolve (a.put (some t) (Value.func (Fn.func gf) #[] (Array.map a.eval caps))).eval { callee:=Callee.value (Operand.tmp t),args:=#[],argTypes:=#[] } ty2).run P w=.ok (Va gf (Array.map a.eval caps)) w:=by
   have:=hz (Value.func (Fn.func gf) #[] (Array.map a.eval caps));simp[resolve,Act.eval,this,Va,Deferred.ofValue]
  simp[wpOps,Oper.wp,execOp,Region.wanted,hmf,Exit.then,Oper.upon,Aeo];refine .inl (.inl ?_);refine Ww hm y ay hy (hX1 (Array.map a.eval caps) (by simpa using Nr)) (hQ1 (Array.map a.eval caps) (by simpa using Nr)) E g (s.put (some t) .J) _ w ?_ h';refine⟨hS.wo,hS.gx,fun o=>by rw[Zs];exact hS.hp o,?_,?_,?_,hS.z,hS.le,hS.d,hS.hb⟩
  ·simpa [Act.put,St.put] using hS.len
  ·exact Al5 (hp:=s.hp) hS.len hS.sl (.J _)
  ·simp[Act.put,hd]
def Arq{f:Nat}{fn:Func}{c:Code}{ac:AC}{ars:List AR}{t gf k:Nat}{args:List SV}{r:SV}(hm:P.follows .mixedOrders=true)(hf:P.funcs[f]?=some fn)(hb:fn.body=some c)(hD:TrD P t gf k c ac)(Hm:trR P fn.results.toList=some ars)
  (Te:∀(cap:Array Value) (w:World),(invoke (.fn (.func gf) cap) #[]).run P w=.ok (.enter gf cap) w) (Td:∀(cap:Array Value) (w:World),cap.size=k->CallsD P gf cap .returning w fun e u' w'=>u'=.returning/\e=.returned (.tuple #[])/\w'=w) (Fs:∀x∈args,NoG x) (hr:NoG r)
  (h:vc (Eh P fun _ _=>False) ac (fun e s=>match e with|.exit _=>False|_=>Mf ars r s) { sl:=args++List.replicate (fn.ntmps-args.length) .undef,hp:=[gOb []] }):Contract P f args r:=by
 intro m w vs hmem Bl Cu
 let m1:Mem:=⟨m.c,fun _=>none,m.p,fun _ _ _ h=>by cases h⟩
 let own:Nat->Prop:=fun _=>False
 let E0:Env:={ m:=m1,m0:=m1,H:=fun _=>none,β:=fun _=>0,t:=fun _=>0 }
 have hW:W w own E0 w:=⟨rfl,rfl,rfl,q_ja _,fun _ _ _=>rfl,hmem.1,fun o ob ho=>(by cases ho),fun o o' ob ob' ho=>(by cases ho),fun _ _ _ _=>rfl,hmem.2.1,TabM.tb (m:=m1) hmem.2.2 (fun _ _ _ h=>h)⟩
 have hS:SR w own m1 (fun _=>True) [] E0 (some []) { sl:=args++List.replicate (fn.ntmps-args.length) .undef,hp:=[gOb []] } { tmps:=vs.toArray++Array.replicate (fn.ntmps-vs.toArray.size) undef,defers:=[] } w:=by
  refine⟨hW,⟨rfl,⟨fun i=>?_,fun i j b hi=>?_,fun i r b hi=>?_,fun i b j hi=>?_⟩,fun i b hi=>?_,fun i b o ob _ ho=>by cases ho⟩,fun o=>?_,by simp[Bl],?_,rfl,rfl,.refl _,(fun h=>by cases h),fun _=>trivial⟩
  ·simp[E0,m1]
  ·cases hi
  ·simp at hi
  ·cases hi
  ·cases hi
  ·cases o with
   |zero=>rfl
   |succ o=>rfl
  ·exact Zl Bl (fun j v x hv hx=>Rep.swap (m:=m) (m':=m1) rfl (fun _ h=>h) (Cu j v x hv hx) (Fs x (q_jb hx)))
 refine calls_of_wp_defers hf hb ?_;have fin:∀(Df:List Deferred) (E:Env) (g:Option (GV)) (s:St) (a:Act) (w':World),SR w own m1 (fun _=>True) Df E g s a w'->Mf ars r s->∃v,(results fn a.tmps).run P w'=.ok v w'/\∃v' m',Ending.returned v=.returned v'/\Rep m' v' r/\(m.le m'/\m'.d=m.d)/\(∀b j,b<w.heap.size->m' b j=m b j)/\Fk m' w' /\
   w'.os=w.os/\w'.tape=w.tape/\w'.output=w.output/\w.heap.size<=w'.heap.size/\∀k,k<w.heap.size->w'.heap[k]?=w.heap[k]?:=by
  intro Df E g s a w' hS hrt;unfold Mf at hrt;split at hrt;rotate_left
  ·exact hrt.elim
  rename_i p svs hp' Kr;obtain⟨hp,Tk⟩:=hrt;obtain⟨us,E',k1,k2,k3,k4,k5⟩:=Wp fn.results.toList ars p svs hp' E s Hm Kr hp hS;refine⟨_,Wn k1,_,⟨E'.m.c,m.d,E'.m.p,m.inj⟩,rfl,Rep.swap (m:=E'.m) (m':=⟨E'.m.c,m.d,E'.m.p,m.inj⟩) rfl (fun _ h=>h) (Wj Tk k2 k3) hr,⟨⟨fun b j v hv=>k4.le.c b j v hv,fun i b hb=>hb,fun b hb=>k4.le.p b hb⟩,rfl⟩,fun b j hb=>?_,⟨k4.wo.mem,k4.wo.pl,k4.wo.tab⟩,k4.wo.os,k4.wo.tape,k4.wo.output,k4.wo.size,fun k hk=>k4.wo.block k hk (fun h=>h)⟩;have:=k4.wo.keep b j hb (fun h=>h);rw[k4.z] at this;exact this
 refine Ah5 (X:=fun _ _=>False) hm hD (fun _ _ _ _ _ _ h=>h.elim) (fun _ _ _ _ _ _ _ _ h=>h.elim) (fun e E g s a w' hS he=>?_) (fun cap Nr e E g s a w' hS he=>?_) E0 (some []) _ _ w hS h
 ·have hd:=hS.dfr;cases e with
  |normal=>simp only[AE.ex,bodyPostD,hd,Leaves];exact fin _ E g s a w' hS he
  |exit id=>exact he.elim
  |ret=>simp only[AE.ex,bodyPostD,hd,Leaves];exact fin _ E g s a w' hS he
 ·have hd:=hS.dfr;have key:Mf ars r s->Leaves P fn a.tmps (fun e w'=>∃v m',e=.returned v/\Rep m' v r/\(m.le m'/\m'.d=m.d)/\(∀b j,b<w.heap.size->m' b j=m b j)/\Fk m' w' /\
    w'.os=w.os/\w'.tape=w.tape/\w'.output=w.output/\w.heap.size<=w'.heap.size/\∀k,k<w.heap.size->w'.heap[k]?=w.heap[k]?) [Va gf cap] .returning w':=by
   intro he;refine leaves_cons (f:=gf) (args:=cap) (by simp) (Te cap w') ?_;refine (Td cap w' Nr).mono ?_;rintro e u' w'' ⟨rfl,rfl,rfl⟩;exact fin _ E g s a w'' hS he
  cases e with
  |normal=>simp only[AE.ex,bodyPostD,hd];exact key he
  |exit id=>exact he.elim
  |ret=>simp only[AE.ex,bodyPostD,hd];exact key he
def vcP(C:CT)(f:AF)(args:List SV)(r:SV):Prop:=vc C f.body (rt f.res r) ⟨args++List.replicate (f.ntmps-args.length) .undef,[gOb []]⟩
def ev_P{C:CT}{b:AC}{n:Nat}{res:List AR}{args:List SV}{r:SV}:vcP C { ntmps:=n,res:=res,body:=b } args r=vc C b (rt res r) ⟨args++List.replicate (n-args.length) .undef,[gOb []]⟩:=q_z
attribute [go_sem] ev_P
def Acx{f:Nat}{fn:Func}{af:AF}{args:List SV}{r:SV}(hm:P.follows .mixedOrders=true)(hf:P.funcs[f]?=some fn)(htr:trF P fn=some af)(Fs:∀x∈args,NoG x)(hr:NoG r)
  (h:vcP (Eh P fun _ _=>False) af args r):Contract P f args r:=by
 intro m w vs hmem Bl Cu;unfold trF at htr;split at htr;rotate_left
 ·cases htr
 rename_i c hb;simp only[q_c,q_a,q_d,q_b] at htr;obtain⟨ars,Hm,ac,No,rfl⟩:=htr
 let m1:Mem:=⟨m.c,fun _=>none,m.p,fun _ _ _ h=>by cases h⟩
 let own:Nat->Prop:=fun _=>False
 let E0:Env:={ m:=m1,m0:=m1,H:=fun _=>none,β:=fun _=>0,t:=fun _=>0 }
 have hW:W w own E0 w:=⟨rfl,rfl,rfl,q_ja _,fun _ _ _=>rfl,hmem.1,fun o ob ho=>(by cases ho),fun o o' ob ob' ho=>(by cases ho),fun _ _ _ _=>rfl,hmem.2.1,TabM.tb (m:=m1) hmem.2.2 (fun _ _ _ h=>h)⟩
 have hS:SR w own m1 (fun _=>True) [] E0 (some []) { sl:=args++List.replicate (fn.ntmps-args.length) .undef,hp:=[gOb []] } { tmps:=vs.toArray++Array.replicate (fn.ntmps-vs.toArray.size) undef,defers:=[] } w:=by
  refine⟨hW,⟨rfl,⟨fun i=>?_,fun i j b hi=>?_,fun i r b hi=>?_,fun i b j hi=>?_⟩,fun i b hi=>?_,fun i b o ob _ ho=>by cases ho⟩,fun o=>?_,by simp[Bl],?_,rfl,rfl,.refl _,(fun h=>by cases h),fun _=>trivial⟩
  ·simp[E0,m1]
  ·cases hi
  ·simp at hi
  ·cases hi
  ·cases hi
  ·cases o with
   |zero=>rfl
   |succ o=>rfl
  ·exact Zl Bl (fun j v x hv hx=>Rep.swap (m:=m) (m':=m1) rfl (fun _ h=>h) (Cu j v x hv hx) (Fs x (q_jb hx)))
 refine calls_of_wp hf hb ?_;have fin:∀(E:Env) (g:Option (GV)) (s:St) (a:Act) (w':World),SR w own m1 (fun _=>True) [] E g s a w'->Mf ars r s->a.defers=[]/\∃v,(results fn a.tmps).run P w'=.ok v w'/\∃v' m',Ending.returned v=.returned v'/\Rep m' v' r/\(m.le m'/\m'.d=m.d)/\(∀b j,b<w.heap.size->m' b j=m b j)/\Fk m' w' /\
   w'.os=w.os/\w'.tape=w.tape/\w'.output=w.output/\w.heap.size<=w'.heap.size/\∀k,k<w.heap.size->w'.heap[k]?=w.heap[k]?:=by
  intro E g s a w' hS hrt;refine⟨hS.dfr,?_⟩;unfold Mf at hrt;split at hrt;rotate_left
  ·exact hrt.elim
  rename_i p svs hp' Kr;obtain⟨hp,Tk⟩:=hrt;obtain⟨us,E',k1,k2,k3,k4,k5⟩:=Wp fn.results.toList ars p svs hp' E s Hm Kr hp hS;refine⟨_,Wn k1,_,⟨E'.m.c,m.d,E'.m.p,m.inj⟩,rfl,Rep.swap (m:=E'.m) (m':=⟨E'.m.c,m.d,E'.m.p,m.inj⟩) rfl (fun _ h=>h) (Wj Tk k2 k3) hr,⟨⟨fun b j v hv=>k4.le.c b j v hv,fun i b hb=>hb,fun b hb=>k4.le.p b hb⟩,rfl⟩,fun b j hb=>?_,⟨k4.wo.mem,k4.wo.pl,k4.wo.tab⟩,k4.wo.os,k4.wo.tape,k4.wo.output,k4.wo.size,fun k hk=>k4.wo.block k hk (fun h=>h)⟩;have:=k4.wo.keep b j hb (fun h=>h);rw[k4.z] at this;exact this
 refine Ww (X:=fun _ _=>False) hm c ac No (fun _ _ _ _ _ _ h=>h.elim) (fun e E g s a w' hS he=>?_) E0 (some []) _ _ w hS h;cases e with
 |normal=>exact fin E g s a w' hS he
 |exit id=>exact he.elim
 |ret=>exact fin E g s a w' hS he
def Aff(o:Oper):Option (Nat×Nat×Array Operand):=
 match o.dst,o.op,o.guard with
 |some t,.makeFunc (.func gf) first caps,none=>if first.size=0 then some (t,gf,caps) else none
 |_,_,_=>none
def Acz(o:Oper):Option Nat:=
 match o.dst,o.op,o.guard with
 |none,.defer c,none=>match c.callee with
  |.value (.tmp t)=>if c.args.size=0/\c.argTypes.size=0 then some t else none
  |_=>none
 |_,_,_=>none
def Ay6{o:Oper}{t gf:Nat}{caps:Array Operand}(h:Aff o=some (t,gf,caps)):o={ dst:=some t,op:=.makeFunc (.func gf) #[] caps,type:=o.type,pos:=o.pos,after:=o.after,guard:=none }:=by
 obtain⟨d,op,ty,pos,af,g⟩:=o;unfold Aff at h;split at h
 ·rename_i h1 h2 h3;simp only at h1 h2 h3;split at h
  ·rename_i hz;cases h;simp only[h1,h2,h3,Array.size_eq_zero_iff.1 hz]
  ·cases h
 ·cases h
def Asg{o:Oper}{t:Nat}(h:Acz o=some t):o={ dst:=none,op:=.defer { callee:=.value (.tmp t),args:=#[],argTypes:=#[] },type:=o.type,pos:=o.pos,after:=o.after,guard:=none }:=by
 obtain⟨d,op,ty,pos,af,g⟩:=o;unfold Acz at h;split at h
 ·rename_i c h1 h2 h3;simp only at h1 h2 h3;split at h
  ·rename_i t' hc;split at h
   ·rename_i hz;cases h;obtain⟨ce,as,ats⟩:=c;simp only at hc hz;simp only[h1,h2,h3,hc,Array.size_eq_zero_iff.1 hz.1,Array.size_eq_zero_iff.1 hz.2]
   ·cases h
  ·cases h
 ·cases h
def Ah4:Code->Option (Nat×Nat×Nat)
 |.region _ ops false=>match ops.toList with
  |[o1,o2]=>match Aff o1,Acz o2 with
   |some (t,gf,caps),some t'=>if t=t' then some (t,gf,caps.size) else none
   |_,_=>none
  |_=>none
 |_=>none
def trD(P:Program):Code->Option (AC×Nat×Nat×Nat)
 |.seq x y=>
  match Ah4 x with
  |some (t,gf,k)=>(trC P y).map fun ay=>(.seq (r9 t) ay,t,gf,k)
  |none=>match trC P x with
   |some ax=>(trD P y).map fun r=>(.seq ax r.1,r.2)
   |none=>none
 |_=>none
def Am4{P:Program}:∀{c:Code} {ac:AC} {t gf k:Nat},trD P c=some (ac,t,gf,k)->TrD P t gf k c ac:=by
 intro c
 induction c with
 |seq x y _ ih=>
  intro ac t gf k h;simp only[trD] at h;split at h
  ·rename_i t' gf' k' hd;simp only[q_e,Prod.mk.injEq] at h;obtain⟨ay,hy,rfl,rfl,rfl,rfl⟩:=h;unfold Ah4 at hd;split at hd;rotate_left
   ·cases hd
   rename_i _ ops _;split at hd;rotate_left
   ·cases hd
   rename_i o1 o2 Hq;split at hd;rotate_left
   ·cases hd
   rename_i t1 gf1 caps t2 h1 h2;split at hd;rotate_left
   ·cases hd
   rename_i htt;subst htt;cases hd;have he:ops=#[o1,o2]:=by rw[<-Array.toArray_toList (xs:=ops),Hq]
   rw[he,Ay6 h1,Asg h2];exact .door _ _ _ _ _ _ _ _ _ _ rfl hy
  ·split at h;rotate_left
   ·cases h
   rename_i ax hx;simp only[q_e] at h;obtain⟨⟨ay,r⟩,hy,hr⟩:=h;cases hr;exact .seq _ _ _ _ hx (ih hy)
 |_=>intro ac t gf k h;simp[trD] at h
def Pf(P:Program)(fn:Func):Option (AF×Nat×Nat×Nat):=
 match fn.body with
 |some c=>match trR P fn.results.toList with
  |some ars=>(trD P c).map fun r=>({ ntmps:=fn.ntmps,res:=ars,body:=r.1 },r.2)
  |none=>none
 |none=>none
def vcD(C:CT)(f:AF)(args:List SV)(r:SV):Prop:=vc C f.body (rt f.res r) ⟨args++List.replicate (f.ntmps-args.length) .undef,[gOb []]⟩
def ev_D{C:CT}{b:AC}{n:Nat}{res:List AR}{args:List SV}{r:SV}:vcD C { ntmps:=n,res:=res,body:=b } args r=vc C b (rt res r) ⟨args++List.replicate (n-args.length) .undef,[gOb []]⟩:=q_z
attribute [go_sem] ev_D
def Xf{P:Program}{f:Nat}{fn:Func}{af:AF}{t gf k:Nat}{args:List SV}{r:SV}(hm:P.follows .mixedOrders=true)(hf:P.funcs[f]?=some fn)(htr:Pf P fn=some (af,t,gf,k))
  (Te:∀(cap:Array Value) (w:World),(invoke (.fn (.func gf) cap) #[]).run P w=.ok (.enter gf cap) w) (Td:∀(cap:Array Value) (w:World),cap.size=k->CallsD P gf cap .returning w fun e u' w'=>u'=.returning/\e=.returned (.tuple #[])/\w'=w)
  (Fs:∀x∈args,NoG x) (hr:NoG r) (h:vcD (Eh P fun _ _=>False) af args r):Contract P f args r:=by
 unfold Pf at htr;split at htr;rotate_left
 ·cases htr
 rename_i c hb;split at htr;rotate_left
 ·cases htr
 rename_i ars Hm;simp only[q_e] at htr;obtain⟨⟨ac,q⟩,hq,Qe⟩:=htr;cases Qe;exact Arq hm hf hb (Am4 hq) Hm Te Td Fs hr h
end
end Go.Proofs.YtgfehkhcmnfpaaaGreatDoor.Abs
