import Derived.Test.YtgdkddjdhijfnaaGreatDoorXEv
import Derived.Defers
import Derived.Recover
set_option linter.all false
set_option maxRecDepth 20000
set_option maxHeartbeats 4000000
namespace Go.Proofs.YtgdkddjdhijfnaaGreatDoor.Abs
open Go Go.RowKit
inductive NoG:SV->Prop
 |bool (b:Bool):NoG (.bool b)
 |int (k:IntKind) (n:Int):NoG (.int k n)
 |float (k:FloatKind) (b:Nat):NoG (.float k b)
 |str (s:ByteArray):NoG (.str s)
 |nilp:NoG .nilp
 |nils:NoG .nils
 |fn (f:Nat):NoG (.fn f)
 |dref (sz:Nat) (l:List SV) (c:Nat):(∀x∈l,NoG x)->NoG (.dref sz l c)
 |dsl (sz:Nat) (l:GV):(∀x∈l.flatten,NoG x)->NoG (.dsl sz l)
 |agg (b:Bool) (l:List SV):(∀x∈l,NoG x)->NoG (.agg b l)
 |tup (l:List SV):(∀x∈l,NoG x)->NoG (.tup l)
def Rep.swap{m m':Mem}(hc:m'.c=m.c)(hpp:∀b,m.p b->m'.p b){v:Value}{s:SV}(h:Rep m v s):NoG s->Rep m' v s:=by
 have hm:∀(l:List SV) (j:Nat) (x:SV),l[j]?=some x->x∈l:=fun l j x h=>q_jb h
 induction h with
 |bool b=>intro _;exact .bool b
 |int k n=>intro _;exact .int k n
 |float k b=>intro _;exact .float k b
 |str s=>intro _;exact .str s
 |nilp=>intro _;exact .nilp
 |nils=>intro _;exact .nils
 |fn f=>intro _;exact .fn f
 |gp i c b hb _=>intro hn;cases hn
 |mp i b hb=>intro hn;cases hn
 |nilm=>intro hn;cases hn
 |ife t=>intro hn;cases hn
 |lit A n cap=>intro hn;cases hn
 |dref sz l c b off vs h0 h1 h2 h3 hp _ ih=>
  intro hn;cases hn with
  |dref _ _ _ hl=>exact .dref sz l c b off vs h0 h1 h2 (fun j v hv=>by rw[hc];exact h3 j v hv) (fun e=>hpp _ (hp e)) (fun j v x hv hx=>ih j v x hv hx (hl x (hm _ _ _ hx)))
 |dsl0 sz A cap=>intro _;exact .dsl0 sz A cap
 |dsl sz l cap b off vs h0 h1 h2 h3 h4 h5 _ ih=>
  intro hn;cases hn with
  |dsl _ _ hl=>exact .dsl sz l cap b off vs h0 h1 h2 h3 h4 (fun j v hv=>by rw[hc];exact h5 j v hv) (fun j v x hv hx=>ih j v x hv hx (hl x (hm _ _ _ hx)))
 |agg vs l h0 h1 _ ih=>
  intro hn;cases hn with
  |agg _ _ hl=>exact .agg vs l h0 h1 (fun j v x hv hx=>ih j v x hv hx (hl x (hm _ _ _ hx)))
 |tup vs l h1 _ ih=>
  intro hn;cases hn with
  |tup _ hl=>exact .tup vs l h1 (fun j v x hv hx=>ih j v x hv hx (hl x (hm _ _ _ hx)))
def Yn(t:Tm):∀x∈tv t,NoG x:=by
 refine Tm.ind (p:=fun t=>∀x∈tv t,NoG x) (fun k i j n l ih=>?_) t;rw[As];intro x hx;simp only[q_kb,q_kc,or_false] at hx;rcases hx with rfl|rfl|rfl|rfl|rfl
 ·exact .int _ _
 ·exact .int _ _
 ·exact .int _ _
 ·exact .int _ _
 ·refine .dsl _ _ (fun y hy=>?_);obtain⟨r,hr,hyr⟩:=List.mem_flatten.1 hy;obtain⟨t,ht,rfl⟩:=q_lc.1 hr;exact ih t ht y hyr
def Qd(t:Tm)(b:Bool):NoG (.agg b (tv t)):=.agg _ _ (Yn t)
section
variable{P:Program}{w0:World}{own:Nat->Prop}{M0:Mem}{B:Env->Prop}{X:SV->GV->Prop}
def Zo(gf:Nat)(cap:Array Value):Deferred:={ target:=.fn (.func gf) cap,args:=#[] }
def Ahc(t:Nat):AC:=.reg [⟨some t,.mv (.c (.bool true)),none,0,false,[]⟩,⟨none,.un .not (.t t),none,0,false,[]⟩,⟨some t,.mv (.c .J),none,0,false,[]⟩] false
def vcP(C:CT)(f:AF)(args:List SV)(r:SV):Prop:=vc C f.body (rt f.res r) ⟨args++List.replicate (f.ntmps-args.length) .undef,[gOb []]⟩
def ev_P{C:CT}{b:AC}{n:Nat}{res:List AR}{args:List SV}{r:SV}:vcP C { ntmps:=n,res:=res,body:=b } args r=vc C b (rt res r) ⟨args++List.replicate (n-args.length) .undef,[gOb []]⟩:=q_z
attribute [go_sem] ev_P
def Lt{f:Nat}{fn:Func}{af:AF}{args:List SV}{r:SV}(hm:P.follows .mixedOrders=true)(hf:P.funcs[f]?=some fn)(htr:trF P fn=some af)(Hb:∀x∈args,NoG x)(hr:NoG r)
  (h:vcP (Bp P fun _ _=>False) af args r):Contract P f args r:=by
 intro m w vs hmem Av Cm;unfold trF at htr;split at htr;rotate_left
 ·cases htr
 rename_i c hb;simp only[q_c,q_a,q_d,q_b] at htr;obtain⟨ars,Mb,ac,Qw,rfl⟩:=htr
 let m1:Mem:=⟨m.c,fun _=>none,m.p,fun _ _ _ h=>by cases h⟩
 let own:Nat->Prop:=fun _=>False
 let E0:Env:={ m:=m1,m0:=m1,H:=fun _=>none,β:=fun _=>0,t:=fun _=>0 }
 have hW:W w own E0 w:=⟨rfl,rfl,rfl,q_ja _,fun _ _ _=>rfl,hmem.1,fun o ob ho=>(by cases ho),fun o o' ob ob' ho=>(by cases ho),fun _ _ _ _=>rfl,hmem.2⟩
 have hS:SR w own m1 (fun _=>True) [] E0 (some []) { sl:=args++List.replicate (fn.ntmps-args.length) .undef,hp:=[gOb []] } { tmps:=vs.toArray++Array.replicate (fn.ntmps-vs.toArray.size) undef,defers:=[] } w:=by
  refine⟨hW,⟨rfl,⟨fun i=>?_,fun i j b hi=>?_,fun i r b hi=>?_,fun i b j hi=>?_⟩,fun i b hi=>?_,fun i b o ob _ ho=>by cases ho⟩,fun o=>?_,by simp[Av],?_,rfl,rfl,.refl _,(fun h=>by cases h),fun _=>trivial⟩
  ·simp[E0,m1]
  ·cases hi
  ·simp at hi
  ·cases hi
  ·cases hi
  ·cases o with
   |zero=>rfl
   |succ o=>rfl
  ·exact Aep Av (fun j v x hv hx=>Rep.swap (m:=m) (m':=m1) rfl (fun _ h=>h) (Cm j v x hv hx) (Hb x (q_jb hx)))
 refine calls_of_wp hf hb ?_;have fin:∀(E:Env) (g:Option (GV)) (s:St) (a:Act) (w':World),SR w own m1 (fun _=>True) [] E g s a w'->Wt ars r s->a.defers=[]/\∃v,(results fn a.tmps).run P w'=.ok v w'/\∃v' m',Ending.returned v=.returned v'/\Rep m' v' r/\(m.le m'/\m'.d=m.d)/\(∀b j,b<w.heap.size->m' b j=m b j)/\Jj m' w' /\
   w'.os=w.os/\w'.tape=w.tape/\w'.output=w.output/\w.heap.size<=w'.heap.size/\∀k,k<w.heap.size->w'.heap[k]?=w.heap[k]?:=by
  intro E g s a w' hS hrt;refine⟨hS.dfr,?_⟩;unfold Wt at hrt;split at hrt;rotate_left
  ·exact hrt.elim
  rename_i p svs hp' Om;obtain⟨hp,hrr⟩:=hrt;obtain⟨us,E',k1,k2,k3,k4,k5⟩:=Ab1 fn.results.toList ars p svs hp' E s Mb Om hp hS;refine⟨_,Ab0 k1,_,⟨E'.m.c,m.d,E'.m.p,m.inj⟩,rfl,Rep.swap (m:=E'.m) (m':=⟨E'.m.c,m.d,E'.m.p,m.inj⟩) rfl (fun _ h=>h) (Abu hrr k2 k3) hr,⟨⟨fun b j v hv=>k4.le.c b j v hv,fun i b hb=>hb,fun b hb=>k4.le.p b hb⟩,rfl⟩,fun b j hb=>?_,⟨k4.wo.mem,k4.wo.pl⟩,k4.wo.os,k4.wo.tape,k4.wo.output,k4.wo.size,fun k hk=>k4.wo.block k hk (fun h=>h)⟩;have:=k4.wo.keep b j hb (fun h=>h);rw[k4.z] at this;exact this
 refine Yy (X:=fun _ _=>False) hm c ac Qw (fun _ _ _ _ _ _ h=>h.elim) (fun e E g s a w' hS he=>?_) E0 (some []) _ _ w hS h;cases e with
 |normal=>exact fin E g s a w' hS he
 |exit id=>exact he.elim
 |ret=>exact fin E g s a w' hS he
def Aju(o:Oper):Option (Nat×Nat×Array Operand):=
 match o.dst,o.op,o.guard with
 |some t,.makeFunc (.func gf) first caps,none=>if first.size=0 then some (t,gf,caps) else none
 |_,_,_=>none
def Aha(o:Oper):Option Nat:=
 match o.dst,o.op,o.guard with
 |none,.defer c,none=>match c.callee with
  |.value (.tmp t)=>if c.args.size=0/\c.argTypes.size=0 then some t else none
  |_=>none
 |_,_,_=>none
def Bcv{o:Oper}{t gf:Nat}{caps:Array Operand}(h:Aju o=some (t,gf,caps)):o={ dst:=some t,op:=.makeFunc (.func gf) #[] caps,type:=o.type,pos:=o.pos,after:=o.after,guard:=none }:=by
 obtain⟨d,op,ty,pos,af,g⟩:=o;unfold Aju at h;split at h
 ·rename_i h1 h2 h3;simp only at h1 h2 h3;split at h
  ·rename_i hz;cases h;simp only[h1,h2,h3,Array.size_eq_zero_iff.1 hz]
  ·cases h
 ·cases h
def A2v{o:Oper}{t:Nat}(h:Aha o=some t):o={ dst:=none,op:=.defer { callee:=.value (.tmp t),args:=#[],argTypes:=#[] },type:=o.type,pos:=o.pos,after:=o.after,guard:=none }:=by
 obtain⟨d,op,ty,pos,af,g⟩:=o;unfold Aha at h;split at h
 ·rename_i c h1 h2 h3;simp only at h1 h2 h3;split at h
  ·rename_i t' hc;split at h
   ·rename_i hz;cases h;obtain⟨ce,as,ats⟩:=c;simp only at hc hz;simp only[h1,h2,h3,hc,Array.size_eq_zero_iff.1 hz.1,Array.size_eq_zero_iff.1 hz.2]
   ·cases h
  ·cases h
 ·cases h
end
end Go.Proofs.YtgdkddjdhijfnaaGreatDoor.Abs
