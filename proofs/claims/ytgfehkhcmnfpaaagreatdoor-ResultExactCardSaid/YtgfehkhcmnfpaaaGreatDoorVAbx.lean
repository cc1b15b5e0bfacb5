import GoSem.Step
import Derived.Orders
import Derived.WideKeyArr
import Derived.MapKept
import Derived.Below
import Derived.Laws.CopyRow
import Derived.Laws.AppendOwn
import Derived.Laws.MakeOwn
import Derived.ChangeKeysEq
import Derived.LaidEql
set_option linter.all false
set_option maxRecDepth 20000
set_option maxHeartbeats 4000000
namespace Go.Proofs.YtgfehkhcmnfpaaaGreatDoor.Abs
open Go
universe u v
def q_z {α:Sort u} {a:α}:a=a:=Eq.trans rfl rfl
def q_a {α:Type u} {β:Type v} {o:Option α} {f:α->Option β} {b:β}:o.bind f=some b↔∃a,o=some a/\f a=some b:=Option.bind_eq_some_iff
def q_b {α:Type u} (a b:α):(some a=some b)=(a=b):=Option.some.injEq a b
def q_c {α β:Type u}:(bind:Option α->(α->Option β)->Option β)=Option.bind:=rfl
def q_d {α:Type u}:(pure:α->Option α)=some:=rfl
def q_e {α:Type u} {β:Type v} {f:α->β} {o:Option α} {b:β}:o.map f=some b↔∃a,o=some a/\f a=b:=Option.map_eq_some_iff
def q_f {α:Type u} {l:List α} {i:Nat} (h:i<l.length):l[i]?=some l[i]:=List.getElem?_eq_getElem h
def q_g {α:Type u} {β:Type v} {l:List α} (f:α->β):(l.map f).length=l.length:=List.length_map f
def q_h {α:Type u} {β:Type v} {f:α->β} {a:α} {l:List α}:(a::l).map f=f a::l.map f:=List.map_cons
def q_i {α:Type u} {β:Type v} {f:α->β}:([]:List α).map f=[]:=List.map_nil
def q_j:=@List.getD_eq_getElem?_getD
def q_ja:=@Nat.le_refl
def q_jb:=@List.mem_of_getElem?
def q_jc:=@List.getElem?_set_ne
def q_jd:=@List.getElem?_eq_none
def q_je:=@decide_eq_false
def q_jf:=@List.getElem?_append_left
def q_jg:=@Nat.zero_add
def q_jh:=@Option.map_some
def q_ji:=@List.getElem?_map
def q_jj:=@List.getElem?_append_right
def q_jk:=@List.length_cons
def q_jl:=@Bool.and_eq_true
def q_jm:=@List.getElem?_eq_some_iff
def q_jn:=@decide_eq_true
def q_jo:=@Nat.lt_or_ge
def q_jp:=@Nat.add_zero
def q_jq:=@List.getElem?_set_self
def q_jr:=@List.length_append
def q_js:=@List.take_of_length_le
def q_jt:=@decide_eq_true_eq
def q_ju:=@List.append_assoc
def q_jv:=@List.getElem?_cons_zero
def q_jw:=@List.getElem?_of_mem
def q_jx:=@List.getElem?_take
def q_jy:=@Nat.mul_le_mul_right
def q_jz:=@Option.getD_some
def q_k:=@List.append_nil
def q_ka:=@Option.isSome_iff_exists
def q_kb:=@List.mem_cons
def q_kc:=@List.not_mem_nil
def q_kd:=@List.getElem_mem
def q_ke:=@List.mem_append
def q_kf:=@List.getElem?_cons_succ
def q_kg:=@List.length_take
def q_kh:=@List.length_drop
def q_ki:=@List.mem_singleton
def q_kj:=@List.length_replicate
def q_kk:=@List.getElem?_drop
def q_kl:=@List.take_length
def q_km:=@List.nil_append
def q_kn:=@List.cons_append
def q_ko:=@Nat.le_trans
def q_kp:=@Nat.lt_of_lt_of_le
def q_kq:=@Nat.not_lt_zero
def q_kr:=@Nat.sub_zero
def q_ks:=@Nat.add_assoc
def q_kt:=@List.map_append
def q_ku:=@of_decide_eq_true
def q_kv:=@of_decide_eq_false
def q_kw:=@Bool.or_eq_true
def q_kx:=@Bool.false_eq_true
def q_ky:=@List.length_eq_zero_iff
def q_kz:=@List.mem_map
def q_l:=@Bool.and_true
def q_la:=@Bool.true_and
def q_lb:=@Bool.and_false
def q_lc:=@Bool.false_and
inductive SV where
 |J
 |undef
 |bool (b:Bool)
 |int (k:IntKind) (n:Int)
 |float (k:FloatKind) (b:Nat)
 |str (s:ByteArray)
 |nilp
 |nils
 |ref (o g e c:Nat)
 |dref (sz:Nat) (cells:List SV) (c:Nat)
 |osl (o g off len:Nat)
 |dsl (sz:Nat) (l:List (List SV))
 |agg (b:Bool) (l:List SV)
 |tup (l:List SV)
 |fn (f:Nat)
 |gp (i c:Nat)
 |mp (i:Nat)
 |nilm
 |ife (t:Nat)
 |lit (A:Option Addr) (n cap:Nat)
 deriving Inhabited
abbrev GV:=List (List SV)
structure Ob where
 box:Bool
 sz:Nat
 els:GV
 frz:Nat
 gen:Nat
 cl:Bool
 deriving Inhabited
structure St where
 sl:List SV
 hp:List Ob
inductive AX where
 |t (i:Nat)
 |c (v:SV)
inductive AOp where
 |mv (x:AX)
 |pick (c a b:AX)
 |new (cells:List SV)
 |box (x:AX)
 |build (zero:List SV) (parts:List (Nat×Nat×AX))
 |bslice (sz:Nat) (parts:List AX)
 |load (ag:Bool) (n:Nat) (a:AX)
 |store (n:Nat) (a x:AX)
 |nilck (x:AX)
 |bin (kd:Nat) (op:BinOp) (x y:AX)
 |un (op:UnOp) (x:AX)
 |conv (k:IntKind) (x:AX)
 |i2f (k:FloatKind) (x:AX)
 |mk (sz bytes:Nat) (zero:List SV) (l c:AX)
 |slc (sz:Nat) (x:AX) (lo hi:Option AX)
 |fad (off:Nat) (x:AX)
 |fld (ag:Bool) (off n:Nat) (x:AX)
 |iad (sz:Nat) (x i:AX)
 |len (st:Bool) (x:AX)
 |app (sz bytes:Nat) (s x:AX)
 |call (f:Nat) (args:List AX)
 |callv (fs:List Nat) (x:AX) (args:List AX)
 |ext (x:AX) (i:Nat)
 |mnx (mx:Bool) (x y:AX)
 |hcall (f:Nat) (args:List AX)
 |newg (cells:List SV)
 |boxg (x:AX)
 |mkmap
 |ifc (t:Nat) (x:AX)
 |pan (x:AX)
 |six (x i:AX)
 |arr (parts:List AX)
 |mlk (z:SV) (x k:AX)
 |mup (x k v:AX)
structure Cd where
 d:Option Nat
 op:AOp
 g:Option (Nat×Bool)
 id:Nat:=0
 fp:Bool:=false
 chk:List Nat:=[]
inductive AC where
 |skip
 |reg (ops:List Cd) (draw:Bool)
 |seq (a b:AC)
 |cut (a b:AC)
 |cond (c:AX) (a b:AC)
 |blk (id:Nat) (b:AC)
 |loop (b:AC)
 |exit (id:Nat)
 |ret
inductive AR where
 |t (i:Nat)
 |cell (i:Nat) (ag:Bool) (n:Nat)
structure AF where
 ntmps:Nat
 res:List AR
 body:AC
inductive AE where
 |normal
 |exit (id:Nat)
 |ret
def St.get(s:St):AX->SV
 |.t i=>s.sl.getD i .undef
 |.c v=>v
def St.put(s:St)(d:Option Nat)(v:SV):St:=
 match d with
 |some i=>{ s with sl:=s.sl.set i v }
 |none=>s
def cellsOf:SV->List SV
 |.agg _ l=>l
 |v=>[v]
def SV.closed:SV->Bool
 |.J=>false
 |.undef=>false
 |.ref ..=>false
 |.osl ..=>false
 |.agg b _=>b
 |.tup _=>false
 |_=>true
def SV.ok:SV->Bool
 |.J=>false
 |.undef=>false
 |.tup _=>false
 |_=>true
def cut(cl:Bool)(sz:Nat)(ag:Bool)(n c:Nat)(cells:List SV):SV:=
 if ag then (if n=sz then .agg cl cells else .agg cl ((cells.drop c).take n)) else cells.getD c .undef
def Dm(sz n c:Nat)(cells new:List SV):List SV:=
 if n=sz then new else if n=1 then cells.set c (new.getD 0 .undef) else cells.take c++new++cells.drop (c+n)
def fz(hp:List Ob)(o:Nat)(ob:Ob):List Ob:=hp.set o { ob with frz:=ob.els.length }
def gOb(G:GV):Ob:={ box:=false,sz:=0,els:=[.J]::G,frz:=0,gen:=0,cl:=true }
def gOf:List Ob->Option (GV)
 |⟨false,0,[.J]::G,0,0,true⟩::_=>some G
 |_=>none
def psz:List SV->Bool
 |[_,_,_,_,_,.nils]=>true
 |[_,_,_,_,_,.dsl 1 _]=>true
 |[.gp _ _,_,_]=>true
 |_=>false
def A0u{l:List SV}(h:psz l=true):l.length=3\/l.length=6:=by
 unfold psz at h;split at h<;>simp_all
def pok(sz:Nat)(l:List SV):Prop:=if sz=3\/sz=6 then psz l=false else True
def Mb:List SV->Bool
 |.undef::_=>true
 |_=>false
inductive HOut where
 |ret (r:SV)
 |pan (x:SV)
structure CT where
 p:Nat->List SV->SV->Prop
 h:Nat->GV->List SV->HOut->GV->Prop
 q:Nat->GV->List SV->(HOut->GV->Prop)->Prop
 x:SV->GV->Prop
 b:SV->SV->Prop
def Dn(hp:List Ob):SV->Option (SV×List Ob)
 |.osl o g off len=>
  match hp[o]? with
  |some ob=>if ob.box=false/\ob.gen=g then some (.dsl ob.sz ((ob.els.drop off).take len),fz hp o ob) else none
  |none=>none
 |.J=>none
 |.undef=>none
 |.ref ..=>none
 |.agg false _=>none
 |.tup _=>none
 |v=>some (v,hp)
def Jg(hp:List Ob):List SV->Option (List SV×List Ob)
 |[]=>some ([],hp)
 |c::r=>
  match Dn hp c with
  |some (c',h1)=>match Jg h1 r with
   |some (r',h2)=>some (c'::r',h2)
   |none=>none
  |none=>none
def Dl(hp:List Ob)(v:SV):Option (SV×List Ob):=
 match v with
 |.agg false l=>
  match Jg hp l with
  |some (l',h)=>some (.agg true l',h)
  |none=>none
 |.ref o g e c=>
  match hp[o]? with
  |some ob=>
   if ob.box=true/\ob.gen=g/\e=0 then
    if ob.cl then some (.dref ob.sz (ob.els.getD 0 []) c,fz hp o ob)
    else match Jg hp (ob.els.getD 0 []) with
     |some (l',h)=>some (.dref ob.sz l' c,h.set o { ob with els:=[l'],frz:=1,cl:=true })
     |none=>none
   else none
  |none=>none
 |v=>Dn hp v
def Eo(hp:List Ob):List SV->Option (List SV×List Ob)
 |[]=>some ([],hp)
 |c::r=>
  match Dl hp c with
  |some (c',h1)=>match Eo h1 r with
   |some (r',h2)=>some (c'::r',h2)
   |none=>none
  |none=>none
structure Eff where
 ob:Prop
 val:SV
 hp:List Ob
 as:Prop:=True
def Zm(op:BinOp)(k:IntKind)(a b:Int):Option SV:=
 match op with
 |.add=>some (.int k (k.wrap (a+b)))
 |.sub=>some (.int k (k.wrap (a-b)))
 |.mul=>some (.int k (k.wrap (a*b)))
 |.eql=>some (.bool (a==b))
 |.neq=>some (.bool (a != b))
 |.lss=>some (.bool (decide (a<b)))
 |.leq=>some (.bool (decide (a<=b)))
 |.gtr=>some (.bool (decide (a > b)))
 |.geq=>some (.bool (decide (a >= b)))
 |.rem=>if b=0 then none else some (.int k (a.tmod b))
 |_=>none
def Ac5(op:BinOp)(k:FloatKind)(a b:Nat):Option SV:=
 match op with
 |.eql=>some (.bool (k.format.order a b==some .eq))
 |.neq=>some (.bool (k.format.order a b != some .eq))
 |.lss=>some (.bool (k.format.order a b==some .lt))
 |.leq=>some (.bool (k.format.order a b==some .lt || k.format.order a b==some .eq))
 |.gtr=>some (.bool (k.format.order a b==some .gt))
 |.geq=>some (.bool (k.format.order a b==some .gt || k.format.order a b==some .eq))
 |_=>none
def eqB(op:BinOp)(b:Bool):Option SV:=
 match op with
 |.eql=>some (.bool b)
 |.neq=>some (.bool (!b))
 |_=>none
def Ui(op:BinOp)(a b:ByteArray):Option SV:=
 match op with
 |.add=>if a.size+b.size<=9223372036854775807 then some (.str (a++b)) else none
 |op=>eqB op (a.toList==b.toList)
def Fq(kd:Nat)(op:BinOp):SV->SV->Option SV
 |.str a,.str b=>if kd=4 then Ui op a b else none
 |.int k a,.int k' b=>if kd=0/\k=k' then Zm op k a b else none
 |.bool a,.bool b=>if kd=1 then eqB op (a==b) else none
 |.float k a,.float k' b=>if kd=3/\k=k' then Ac5 op k a b else none
 |.ref ..,.nilp=>if kd=2 then eqB op false else none
 |.dref ..,.nilp=>if kd=2 then eqB op false else none
 |.gp ..,.nilp=>if kd=2 then eqB op false else none
 |.gp i c,.gp j d=>if kd=2 then eqB op (i==j && c==d) else none
 |.nilp,.nilp=>if kd=2 then eqB op true else none
 |.nilp,.dref ..=>if kd=2 then eqB op false else none
 |.nilp,.gp ..=>if kd=2 then eqB op false else none
 |_,_=>none
def Pn(kd:Nat)(op:BinOp):SV->SV->Option (SV×SV)
 |.dref _ l _,.dref _ l2 _=>if kd=2/\psz l=true/\psz l2=true then (match op with
  |.eql=>some (.bool true,.bool false)
  |.neq=>some (.bool false,.bool true)
  |_=>none) else none
 |_,_=>none
def Sm(hp:List Ob)(sz:Nat):SV->Option (GV)
 |.nils=>some []
 |.dsl s l=>if s=sz then some l else none
 |.osl o g off len=>
  match hp[o]? with
  |some ob=>if ob.box=false/\ob.gen=g/\ob.sz=sz then some ((ob.els.drop off).take len) else none
  |none=>none
 |_=>none
def Sk(hp:List Ob):List SV->Option (GV×List Ob)
 |[]=>some ([],hp)
 |c::r=>
  match Dl hp c with
  |some (c',h1)=>match Sk h1 r with
   |some (r',h2)=>some (cellsOf c'::r',h2)
   |none=>none
  |none=>none
def Ub:List (Nat×Nat×SV)->Prop
 |[]=>True
 |(_,n,v)::r=>v.ok=true/\(cellsOf v).length=n/\Ub r
def fill(cells:List SV):List (Nat×Nat×SV)->List SV
 |[]=>cells
 |(off,n,v)::r=>fill (Dm cells.length n off cells (cellsOf v)) r
def St.val(s:St)(o:Option SV):Option Eff:=
 match o with
 |some v=>some { ob:=True,val:=v,hp:=s.hp }
 |none=>none
def Kg(hp:List Ob)(ag:Bool)(n:Nat):SV->Option Eff
 |.ref o g e c=>
  match hp[o]? with
  |some ob=>if ob.gen=g then some { ob:=e<ob.els.length/\c+n<=ob.sz,val:=cut (!ob.box || ob.cl) ob.sz ag n c (ob.els.getD e []),hp:=hp } else none
  |none=>none
 |.dref sz cells c=>some { ob:=c+n<=sz,val:=cut true sz ag n c cells,hp:=hp }
 |.gp i c=>match gOf hp with
  |some G=>match G[i]? with
   |some row=>some { ob:=Mb row=false/\c+n<=row.length,val:=cut true row.length ag n c row,hp:=hp }
   |none=>none
  |none=>none
 |_=>none
def Qv(hp:List Ob)(n:Nat)(a x:SV):Option Eff:=
 match a with
 |.ref o g e c=>
  match hp[o]? with
  |some ob=>
   if ob.gen=g then
    if ob.box then
     some { ob:=e=0/\ob.frz=0/\c+n<=ob.sz/\x.ok=true/\(cellsOf x).length=n,val:=.undef,hp:=hp.set o { ob with els:=[Dm ob.sz n c (ob.els.getD 0 []) (cellsOf x)],cl:=x.closed && (ob.cl || n==ob.sz) } }
    else match Dl hp x with
     |some (x',h)=>match h[o]? with
      |some ob'=>if ob'.gen=g/\ob'.box=false then some { ob:=e<ob'.els.length/\ob'.frz<=e/\c+n<=ob'.sz/\(cellsOf x').length=n/\x'.ok=true,val:=.undef,hp:=h.set o { ob' with els:=ob'.els.set e (Dm ob'.sz n c (ob'.els.getD e []) (cellsOf x')) } } else none
      |none=>none
     |none=>none
   else none
  |none=>none
 |.gp i c=>match Dl hp x with
  |some (x',h)=>match gOf h with
   |some G=>match G[i]? with
    |some row=>some { ob:=Mb row=false/\c+n<=row.length/\(cellsOf x').length=n/\x'.ok=true,val:=.undef,hp:=h.set 0 (gOb (G.set i (Dm row.length n c row (cellsOf x')))) }
    |none=>none
   |none=>none
  |none=>none
 |_=>none
def Uq(hp:List Ob)(sz bytes:Nat)(s x:SV):Option Eff:=
 match Sm hp sz x with
 |some xs=>
  match s with
  |.nils=>some { ob:=xs.length*bytes<=140737488355328/\xs.length<=140737488355328,val:=.osl hp.length 0 0 xs.length,hp:=hp++[{ box:=false,sz:=sz,els:=xs,frz:=0,gen:=0,cl:=true }] }
  |.osl o g off len=>
   match hp[o]? with
   |some ob=>
    if ob.box=false/\ob.gen=g/\ob.sz=sz/\off=0 then
     some { ob:=len=ob.els.length/\(len+xs.length)*bytes<=140737488355328/\len+xs.length<=140737488355328,val:=.osl o (g+1) 0 (len+xs.length),hp:=hp.set o { ob with els:=ob.els++xs,frz:=ob.els.length,gen:=g+1 } }
    else none
   |none=>none
  |_=>none
 |none=>none
def Sj(hp:List Ob)(sz:Nat):SV->SV->Option (Prop×SV)
 |.osl o g off len,.int _ i=>
  match hp[o]? with
  |some ob=>if ob.sz=sz then some (0<=i/\i<len,.ref o g (off+i.toNat) 0) else none
  |none=>none
 |.dsl s l,.int _ i=>if s=sz then some ((0<=i/\i<l.length)/\pok sz (l.getD i.toNat []),.dref sz (l.getD i.toNat []) 0) else none
 |_,_=>none
def Ni(hp:List Ob):Bool->SV->Option Eff
 |false,.nils=>some { ob:=True,val:=.int .i64 0,hp:=hp }
 |false,.dsl _ l=>some { ob:=True,val:=.int .i64 l.length,hp:=hp,as:=l.length<=140737488355328 }
 |false,.osl _ _ _ len=>some { ob:=True,val:=.int .i64 len,hp:=hp }
 |true,.str s=>some { ob:=True,val:=.int .i64 s.size,hp:=hp }
 |_,_=>none
def Pl(s:St):Option AX->Nat->Option (Prop×Nat)
 |none,d=>some (True,d)
 |some x,d=>match s.get x with
  |.int _ i=>some (0<=i/\i<=d,i.toNat)
  |_=>none
def loB(s:St):Option AX->Nat->Option (Prop×Nat)
 |none,_=>some (True,0)
 |some x,d=>Pl s (some x) d
def Mj(s:St)(z:Nat)(x:SV)(lo hi:Option AX):Option Eff:=
 match x with
 |.dsl sz l=>
  if z=0\/sz≠z then none else
  match Pl s hi l.length with
  |some (p,h)=>match loB s lo h with
   |some (q,n)=>some { ob:=p/\q,val:=.dsl sz ((l.drop n).take (h-n)),hp:=s.hp }
   |none=>none
  |none=>none
 |.osl o g off len=>
  match s.hp[o]? with
  |some ob=>
   if z=0\/ob.sz≠z then none else
   match Pl s hi len with
   |some (p,h)=>match loB s lo h with
    |some (q,n)=>some { ob:=p/\q,val:=.osl o g (off+n) (h-n),hp:=s.hp }
    |none=>none
   |none=>none
  |none=>none
 |.str b=>
  if z≠0 then none else
  match Pl s hi b.size with
  |some (p,h)=>match loB s lo h with
   |some (q,n)=>some { ob:=p/\q,val:=.str (b.extract n h),hp:=s.hp }
   |none=>none
  |none=>none
 |_=>none
abbrev K3:=Int×Int×Int
def Tw(k:K3):SV:=.agg true [.int .i64 k.1,.int .i64 k.2.1,.int .i64 k.2.2]
def Tt:SV->Option K3
 |.agg true [.int .i64 a,.int .i64 b,.int .i64 c]=>some (a,b,c)
 |_=>none
def ok1(n:Int):Prop:=-9223372036854775808<=n/\n<=9223372036854775807
def ok3(k:K3):Prop:=ok1 k.1/\ok1 k.2.1/\ok1 k.2.2
def ent(p:K3×SV):SV:=.tup [Tw p.1,p.2]
def Of(l:List (K3×SV)):List SV:=.undef::l.map ent
def Ty(k:K3):List SV->Option (Option SV)
 |[]=>some none
 |.tup [k',v]::r=>match Tt k' with
  |some k2=>if k2=k then some (some v) else Ty k r
  |none=>none
 |_=>none
def Uv(b:ByteArray)(n:Nat):Int:=((b.data.getD n 0).toNat:Int)
def Bj(s:St):AOp->Option Eff
 |.mv x=>s.val (some (s.get x))
 |.pick c a b=>match s.get c with
  |.bool t=>s.val (some (if t then s.get a else s.get b))
  |_=>none
 |.new cells=>some { ob:=True,val:=.ref s.hp.length 0 0 0,hp:=s.hp++[{ box:=true,sz:=cells.length,els:=[cells],frz:=0,gen:=0,cl:=true }] }
 |.box x=>some { ob:=(s.get x).ok=true,val:=.ref s.hp.length 0 0 0,hp:=s.hp++[{ box:=true,sz:=(cellsOf (s.get x)).length,els:=[cellsOf (s.get x)],frz:=0,gen:=0,cl:=(s.get x).closed }] }
 |.build zero parts=>some { ob:=Ub (parts.map fun p=>(p.1,p.2.1,s.get p.2.2)),val:=.agg (parts.all fun p=>(s.get p.2.2).closed) (fill zero (parts.map fun p=>(p.1,p.2.1,s.get p.2.2))),hp:=s.hp }
 |.bslice sz parts=>match Sk s.hp (parts.map s.get) with
  |some (rows,h)=>some { ob:=∀r∈rows,r.length=sz,val:=.osl h.length 0 0 rows.length,hp:=h++[{ box:=false,sz:=sz,els:=rows,frz:=0,gen:=0,cl:=true }] }
  |none=>none
 |.load ag n a=>Kg s.hp ag n (s.get a)
 |.store n a x=>Qv s.hp n (s.get a) (s.get x)
 |.nilck x=>match s.get x with
  |.ref o g e c=>s.val (some (.ref o g e c))
  |.dref z l c=>s.val (some (.dref z l c))
  |.gp i c=>s.val (some (.gp i c))
  |_=>none
 |.bin kd op x y=>s.val (Fq kd op (s.get x) (s.get y))
 |.un op x=>match op,s.get x with
  |.not,.bool b=>s.val (some (.bool (!b)))
  |.neg,.int k n=>s.val (some (.int k (k.wrap (0-n))))
  |_,_=>none
 |.conv k x=>match s.get x with
  |.int _ n=>s.val (some (.int k (k.wrap n)))
  |_=>none
 |.i2f k x=>match s.get x with
  |.int _ n=>s.val (some (.float k (k.nearest n)))
  |_=>none
 |.mk sz bytes zero l c=>match s.get l,s.get c with
  |.int _ l,.int _ c=>some { ob:=0<=l/\l<=c/\c*bytes<=140737488355328/\c<=140737488355328,val:=.osl s.hp.length 0 0 l.toNat,hp:=s.hp++[{ box:=false,sz:=sz,els:=List.replicate l.toNat zero,frz:=0,gen:=0,cl:=true }] }
  |_,_=>none
 |.slc z x lo hi=>Mj s z (s.get x) lo hi
 |.fad off x=>match s.get x with
  |.ref o g e c=>s.val (some (.ref o g e (c+off)))
  |.dref z l c=>s.val (some (.dref z l (c+off)))
  |.gp i c=>s.val (some (.gp i (c+off)))
  |_=>none
 |.fld ag off n x=>match s.get x with
  |.agg b l=>some { ob:=off+n<=l.length,val:=cut b (l.length+1) ag n off l,hp:=s.hp }
  |_=>none
 |.iad sz x i=>match Sj s.hp sz (s.get x) (s.get i) with
  |some (p,v)=>some { ob:=p,val:=v,hp:=s.hp }
  |none=>none
 |.len st x=>Ni s.hp st (s.get x)
 |.app sz bytes a x=>Uq s.hp sz bytes (s.get a) (s.get x)
 |.ext x i=>match s.get x with
  |.tup l=>match l[i]? with
   |some v=>s.val (some v)
   |none=>none
  |_=>none
 |.mnx mx x y=>match s.get x,s.get y with
  |.int k a,.int _ b=>s.val (some (.int k (if mx then (if b > a then b else a) else (if b<a then b else a))))
  |_,_=>none
 |.six x i=>match s.get x,s.get i with
  |.str b,.int _ n=>some { ob:=0<=n/\n.toNat<b.size,val:=.int .u8 (Uv b n.toNat),hp:=s.hp }
  |_,_=>none
 |.arr parts=>some { ob:=∀p∈parts,(s.get p).closed=true/\(s.get p).ok=true/\(cellsOf (s.get p)).length=1,val:=.agg true (parts.map fun p=>cellsOf (s.get p)).flatten,hp:=s.hp }
 |.mlk z x k=>match s.get x,Tt (s.get k),gOf s.hp with
  |.mp i,some kk,some G=>match G[i]? with
   |some (.undef::es)=>match Ty kk es with
    |some r=>some { ob:=ok3 kk,val:=.tup [r.getD z,.bool r.isSome],hp:=s.hp }
    |none=>none
   |_=>none
  |_,_,_=>none
 |.mup x k v=>match s.get x,Tt (s.get k),Dl s.hp (s.get v) with
  |.mp i,some kk,some (v',h)=>match gOf h with
   |some G=>match G[i]? with
    |some (.undef::es)=>match Ty kk es with
     |some none=>some { ob:=ok3 kk/\v'.ok=true/\(cellsOf v').length=1,val:=.undef,hp:=h.set 0 (gOb (G.set i (.undef::(es++[.tup [Tw kk,v']])))) }
     |_=>none
    |_=>none
   |none=>none
  |_,_,_=>none
 |.call ..=>none
 |.callv ..=>none
 |.hcall ..=>none
 |.pan _=>none
 |.newg cells=>match gOf s.hp with
  |some G=>some { ob:=∀c∈cells,c.closed=true,val:=.gp G.length 0,hp:=s.hp.set 0 (gOb (G++[cells])) }
  |none=>none
 |.boxg x=>match Dl s.hp (s.get x) with
  |some (v,h)=>match gOf h with
   |some G=>some { ob:=True,val:=.gp G.length 0,hp:=h.set 0 (gOb (G++[cellsOf v])) }
   |none=>none
  |none=>none
 |.mkmap=>match gOf s.hp with
  |some G=>some { ob:=True,val:=.mp G.length,hp:=s.hp.set 0 (gOb (G++[[.undef]])) }
  |none=>none
 |.ifc t x=>match s.get x with
  |.agg true []=>s.val (some (.ife t))
  |_=>none
def Dh:SV->List Nat
 |.osl o _ _ _=>[o]
 |.ref o _ _ _=>[o]
 |_=>[]
def Ec(hp:List Ob):SV->List Nat
 |.agg false l=>l.flatMap Dh
 |.ref o _ _ _=>o::(match hp[o]? with|some ob=>if ob.cl then [] else (ob.els.getD 0 []).flatMap Dh|none=>[])
 |s=>Dh s
def Hi(hp:List Ob):List SV->List Nat
 |[]=>[]
 |c::r=>Ec hp c++(match Dl hp c with|some (_,h1)=>Hi h1 r|none=>[])
def Pi(hp:List Ob)(a x:SV):List Nat:=
 match a with
 |.ref o _ _ _=>match hp[o]? with
  |some ob=>if ob.box then [] else Ec hp x
  |none=>Ec hp x
 |_=>Ec hp x
def Ka:SV->Bool
 |.gp ..=>true
 |_=>false
def adC(v:SV):List Nat:=if Ka v then [0] else Dh v
def Dt(s:St):AOp->List Nat
 |.load _ _ a=>adC (s.get a)
 |.store _ a x=>adC (s.get a)++Pi s.hp (s.get a) (s.get x)
 |.app _ _ a x=>Dh (s.get a)++Dh (s.get x)
 |.bslice _ ps=>Hi s.hp (ps.map s.get)
 |.slc _ x _ _=>Dh (s.get x)
 |.iad _ x _=>Dh (s.get x)
 |.call _ args=>Hi s.hp (args.map s.get)
 |.callv _ _ args=>Hi s.hp (args.map s.get)
 |.hcall _ args=>0::Hi s.hp (args.map s.get)
 |.newg _=>[0]
 |.boxg x=>0::Ec s.hp (s.get x)
 |.mkmap=>[0]
 |.mlk ..=>[0]
 |.mup _ _ v=>0::Ec s.hp (s.get v)
 |.pan _=>[0]
 |_=>[]
def Hd(s:St):AOp->Bool
 |.new _=>true
 |.box _=>true
 |.bslice ..=>true
 |.mk ..=>true
 |.app _ _ a _=>match s.get a with
  |.nils=>true
  |_=>false
 |_=>false
def reader:AOp->Bool
 |.load ..=>true
 |.slc ..=>true
 |.iad ..=>true
 |.mlk ..=>true
 |_=>false
def Abx:AOp->Bool
 |.load ..=>true
 |.store ..=>true
 |.app ..=>true
 |.bslice ..=>true
 |.slc ..=>true
 |.iad ..=>true
 |.call ..=>true
 |.callv ..=>true
 |.new _=>true
 |.box _=>true
 |.mk ..=>true
 |.hcall ..=>true
 |.newg _=>true
 |.boxg _=>true
 |.mkmap=>true
 |.mlk ..=>true
 |.mup ..=>true
 |.pan _=>true
 |_=>false
def Dr(s:St)(op:AOp):List Nat:=Dt s op++(if Hd s op then [s.hp.length] else [])
def Ea(s:St)(op:AOp):List Nat:=if reader op then [] else Dr s op
def gs(b:Bool)(s:St)(X Y:St->Prop):Prop:=(b=true->X s)/\(b=false->Y s)
def Awb{s:St}{X Y:St->Prop}:gs true s X Y=X s:=by simp[gs]
def Av9{s:St}{X Y:St->Prop}:gs false s X Y=Y s:=by simp[gs]
def Awa{b:Bool}{s:St}{X Y:St->Prop}:gs (!b) s X Y=gs b s Y X:=by cases b<;>simp[gs]
def vc1(C:CT)(o:Cd)(s:St)(K:St->Prop):Prop:=
 match o.op with
 |.call f args=>
  match Eo s.hp (args.map s.get) with
  |some (vs,h)=>∃r,C.p f vs r/\K ({ s with hp:=h }.put o.d r)
  |none=>False
 |.callv fs x args=>
  match s.get x with
  |.fn f=>if fs.contains f then (match Eo s.hp (args.map s.get) with
   |some (vs,h)=>∃r,C.p f vs r/\K ({ s with hp:=h }.put o.d r)
   |none=>False) else False
  |_=>False
 |.pick c a b=>match s.get c with
  |.bool t=>gs t s (fun s=>K (s.put o.d (s.get a))) (fun s=>K (s.put o.d (s.get b)))
  |_=>False
 |.hcall f args=>
  match Eo s.hp (args.map s.get) with
  |some (vs,h)=>match gOf h with
   |some G=>∃Q,C.q f G vs Q/\∀out G',Q out G'->(match out with|.ret r=>K ({ s with hp:=h.set 0 (gOb G') }.put o.d r)|.pan x=>C.x x G')
   |none=>False
  |none=>False
 |.pan x=>
  match s.get x with
  |.ife t=>match gOf s.hp with
   |some G=>C.x (.ife t) G
   |none=>False
  |_=>False
 |.bin kd op x y=>match Pn kd op (s.get x) (s.get y) with
  |some (va,vb)=>(C.b (s.get x) (s.get y)->K (s.put o.d va))/\K (s.put o.d vb)
  |none=>match Bj s (.bin kd op x y) with
   |some e=>e.ob/\(e.as->K ({ s with hp:=e.hp }.put o.d e.val))
   |none=>False
 |op=>match Bj s op with
  |some e=>e.ob/\(e.as->K ({ s with hp:=e.hp }.put o.d e.val))
  |none=>False
def Ex(C:CT):List Cd->St->(St->Prop)->Prop
 |[],s,K=>K s
 |o::rest,s,K=>
  match o.g with
  |none=>vc1 C o s fun s'=>Ex C rest s' K
  |some (t,want)=>
   match s.sl.getD t .undef with
   |.bool b=>gs (b==want) s (fun s=>vc1 C o s fun s'=>Ex C rest s' K) (fun s=>Ex C rest (s.put o.d .undef) K)
   |.undef=>Ex C rest (s.put o.d .undef) K
   |_=>False
def Et(C:CT)(o:Cd)(s:St)(K:St->Prop->Prop):Prop:=
 match o.op with
 |.call f args=>
  match Eo s.hp (args.map s.get) with
  |some (vs,h)=>∃r,C.p f vs r/\K ({ s with hp:=h }.put o.d r) True
  |none=>False
 |.callv fs x args=>
  match s.get x with
  |.fn f=>if fs.contains f then (match Eo s.hp (args.map s.get) with
   |some (vs,h)=>∃r,C.p f vs r/\K ({ s with hp:=h }.put o.d r) True
   |none=>False) else False
  |_=>False
 |.pick c a b=>match s.get c with
  |.bool t=>gs t s (fun s=>K (s.put o.d (s.get a)) True) (fun s=>K (s.put o.d (s.get b)) True)
  |_=>False
 |.hcall f args=>
  match Eo s.hp (args.map s.get) with
  |some (vs,h)=>match gOf h with
   |some G=>∃out G',C.h f G vs out G'/\(match out with|.ret r=>K ({ s with hp:=h.set 0 (gOb G') }.put o.d r) True|.pan x=>o.chk.contains o.id=true/\C.x x G')
   |none=>False
  |none=>False
 |.pan _=>False
 |op=>match Bj s op with
  |some e=>e.ob/\K ({ s with hp:=e.hp }.put o.d e.val) e.as
  |none=>False
def Aay:AOp->Bool
 |.hcall ..=>true
 |_=>false
def Ol(s:St)(op:AOp)(hp':List Ob):Prop:=
 match op with
 |.load ag n x=>
  match s.get x with
  |.gp i c=>
   match gOf s.hp with
   |some G=>match gOf hp' with
    |some G'=>match G[i]? with
     |some r=>match G'[i]? with
      |some r'=>(Mb r'=false/\c+n<=r'.length)/\cut true r'.length ag n c r'=cut true r.length ag n c r
      |none=>False
     |none=>False
    |none=>False
   |none=>False
  |_=>False
 |_=>False
def m9(s1:St)(op1:AOp)(s2:St)(op2:AOp)(hp':List Ob):Prop:=(∀x∈Ea s1 op1,x ∉ Dr s2 op2)/\(∀x∈Dr s1 op1,x∈Ea s2 op2->Aay op2=true/\Ol s1 op1 hp')
def clear(o:Cd)(s:St)(fps:List (Nat×AOp×St)):Prop:=
 match o.chk with
 |[]=>True
 |l=>∀q∈fps,q.1∈l->∀x∈Ea q.2.2 q.2.1,x ∉ Dr s o.op
def Qw(o:Cd)(s:St)(fps:List (Nat×AOp×St))(s':St):Prop:=
 match o.chk with
 |[]=>True
 |l=>∀q∈fps,q.1∈l->∀x∈Dr q.2.2 q.2.1,x∈Ea s o.op->Aay o.op=true/\Ol q.2.2 q.2.1 s'.hp
def Gu(C:CT):List Cd->St->List (Nat×AOp×St)->Prop->(St->Prop)->Prop
 |[],s,_,p,K=>p->K s
 |o::rest,s,fps,p,K=>
  match o.g with
  |none=>clear o s fps/\Et C o s fun s' q=>Qw o s fps s'/\Gu C rest s' (if o.fp then (o.id,o.op,s)::fps else fps) (p/\q) K
  |some (t,want)=>
   match s.sl.getD t .undef with
   |.bool b=>gs (b==want) s (fun s=>clear o s fps/\Et C o s fun s' q=>Qw o s fps s'/\Gu C rest s' (if o.fp then (o.id,o.op,s)::fps else fps) (p/\q) K) (fun s=>Gu C rest (s.put o.d .undef) fps p K)
   |.undef=>Gu C rest (s.put o.d .undef) fps p K
   |_=>False
def below(n:Nat):SV->Bool
 |.osl o _ _ _=>decide (o<n)
 |.ref o _ _ _=>decide (o<n)
 |.agg false l=>l.all fun x=>match x with
  |.osl o _ _ _=>decide (o<n)
  |.ref o _ _ _=>decide (o<n)
  |.agg false _=>false
  |_=>true
 |_=>true
def Og(o:Nat):SV->Bool
 |.osl o' _ _ _=>decide (o'≠o)
 |.ref o' _ _ _=>decide (o'≠o)
 |.agg false l=>l.all fun x=>match x with
  |.osl o' _ _ _=>decide (o'≠o)
  |.ref o' _ _ _=>decide (o'≠o)
  |.agg false _=>false
  |_=>true
 |_=>true
def Uc(o n:Nat):SV->SV
 |.ref o' g e c=>if o'=o then .gp n c else .ref o' g e c
 |v=>v
def Aa8(o gen:Nat):SV->Bool
 |.ref o' g e _=>decide (o'≠o) || (g==gen && e==0)
 |v=>Og o v
def Po(sz:Nat):Ob:={ box:=false,sz:=sz,els:=[],frz:=0,gen:=0,cl:=true }
inductive Wk:St->St->Prop
 |refl (s:St):Wk s s
 |trans {a b c:St}:Wk a b->Wk b c->Wk a c
 |slots (s:St) (l:List SV):l.length=s.sl.length->(∀(i:Nat) (v:SV),l[i]?=some v->v=SV.J\/s.sl[i]?=some v)->Wk s { s with sl:=l }
 |trunc (s:St) (n:Nat):((gOf s.hp).isSome=true->0<n)->(∀v∈s.sl,below n v=true)->(∀ob∈s.hp.take n,ob.box=true->ob.cl=false->∀r∈ob.els,∀x∈r,below n x=true)->(∀ob∈s.hp.drop n,ob.gen<777)->Wk s { s with hp:=s.hp.take n }
 |ghost (s:St) (i sz:Nat):s.sl[i]?=some .nils ->
   Wk s { sl:=s.sl.set i (.osl s.hp.length 0 0 0),hp:=s.hp++[{ box:=false,sz:=sz,els:=[],frz:=0,gen:=0,cl:=true }] }
 |clos (s:St) (i:Nat) (x v:SV) (h:List Ob):s.sl[i]?=some x->Dl s.hp x=some (v,h)->Wk s { sl:=s.sl.set i v,hp:=h }
 |nil (s:St) (i sz:Nat):s.sl[i]?=some .nils->Wk s { s with sl:=s.sl.set i (.dsl sz []) }
 |promo (s:St) (o:Nat) (ob:Ob) (G:GV) (row:List SV):gOf s.hp=some G->s.hp[o]?=some ob->ob.box=true->ob.cl=true->ob.frz=0->ob.els=[row]->row≠[]->ob.gen<777->(∀v∈s.sl,Aa8 o ob.gen v=true) ->
   (∀j ob',s.hp[j]?=some ob'->j≠o->ob'.box=true->ob'.cl=false->∀r∈ob'.els,∀x∈r,Og o x=true) ->
   Wk s { sl:=s.sl.map (Uc o G.length),hp:=(s.hp.set 0 (gOb (G++[row]))).set o (Po ob.sz) }
def Pj(body:(AE->St->Prop)->St->Prop)(Q:AE->St->Prop):Nat->St->Prop
 |0,_=>False
 |n+1,s=>∃s0,Wk s s0/\body (fun e s'=>match e with|.normal=>Pj body Q n s'|e=>Q e s') s0
def vc(C:CT):AC->(AE->St->Prop)->St->Prop
 |.skip,Q,s=>Q .normal s
 |.reg ops draw,Q,s=>if draw then Gu C ops s [] True (Q .normal) else Ex C ops s (Q .normal)
 |.seq a b,Q,s=>vc C a (fun e s'=>match e with|.normal=>vc C b Q s'|e=>Q e s') s
 |.cut a b,Q,s=>vc C a (fun e s'=>match e with|.normal=>vc C b Q s'|e=>Q e s') s
 |.cond c a b,Q,s=>match s.get c with
  |.bool t=>gs t s (vc C a Q) (vc C b Q)
  |_=>False
 |.blk id b,Q,s=>vc C b (fun e s'=>match e with|.exit j=>if j=id then Q .normal s' else Q (.exit j) s'|e=>Q e s') s
 |.loop b,Q,s=>∃n,Pj (fun Q' s'=>vc C b Q' s') Q n s
 |.exit id,Q,s=>Q (.exit id) s
 |.ret,Q,s=>Q .ret s
def Zv(s:St):AR->Option (Prop×SV×List Ob)
 |.t i=>match Dl s.hp (s.sl.getD i .undef) with
  |some (v,h)=>some (True,v,h)
  |none=>none
 |.cell i ag n=>match Kg s.hp ag n (s.sl.getD i .undef) with
  |some e=>match Dl e.hp e.val with
   |some (v,h)=>some (e.ob,v,h)
   |none=>none
  |none=>none
def Nb(s:St):List AR->Option (Prop×List SV×List Ob)
 |[]=>some (True,[],s.hp)
 |r::rs=>match Zv s r with
  |some (p,v,h)=>match Nb { s with hp:=h } rs with
   |some (q,vs,h')=>some (p/\q,v::vs,h')
   |none=>none
  |none=>none
def Mf(rs:List AR)(r:SV)(s:St):Prop:=
 match Nb s rs with
 |some (p,vs,_)=>p/\r=(match vs with|[v]=>v|vs=>.tup vs)
 |none=>False
def vcF(C:CT)(f:AF)(args:List SV)(r:SV):Prop:=
 vc C f.body (fun e s=>match e with|.exit _=>False|_=>Mf f.res r s) { sl:=args++List.replicate (f.ntmps-args.length) .undef,hp:=[] }
def Zq:Value->Option SV
 |.bool b=>some (.bool b)
 |.int k n=>some (.int k n)
 |.float k b=>some (.float k b)
 |.string s=>some (.str s)
 |.pointer none=>some .nilp
 |.slice none 0 0=>some .nils
 |.map none=>some .nilm
 |.agg cs=>match cs.toList.mapM (fun v=>match v with
   |.bool b=>some (SV.bool b)|.int k n=>some (.int k n)|.float k b=>some (.float k b)|.string s=>some (.str s)
   |.pointer none=>some .nilp|.slice none 0 0=>some .nils|.map none=>some .nilm|_=>none) with
  |some l=>some (.agg true l)
  |none=>none
 |_=>none
def trX:Operand->Option AX
 |.tmp t=>some (.t t)
 |.const v=>(Zq v).map .c
 |.func f=>some (.c (.fn f))
 |_=>none
def Hb(P:Program)(t:TypeId):Option Bool:=
 match P.underlying t with
 |some (.struct _)=>some true
 |some (.array _ _)=>some true
 |some _=>some false
 |none=>none
def Lb(P:Program)(t:TypeId):Option SV:=((P.info? t).bind (·.zero)).bind Zq
def Ls(P:Program)(t:TypeId):Option TypeId:=
 match P.underlying t with
 |some (.slice e)=>some e
 |_=>none
def Pq(P:Program)(t:TypeId)(i:Nat):Option Field:=
 match P.underlying t with
 |some (.struct fs)=>fs[i]?
 |_=>none
def Uj(P:Program)(t:TypeId):List (Nat×Operand)->Option (List (Nat×Nat×AX))
 |[]=>some []
 |(i,x)::r=>do
  let f <-Pq P t i
  let n:=P.cellsOf f.type
  let x' <-trX x
  let r' <-Uj P t r
  pure ((f.offset,n,x')::r')
def Uk(k:Nat):List (Nat×Operand)->Option (List AX)
 |[]=>some []
 |(i,x)::r=>if i=k then do
   let x' <-trX x
   let r' <-Uk (k+1) r
   pure (x'::r') else none
def Ph:List Operand->Option (List AX)
 |[]=>some []
 |x::r=>do
  let x' <-trX x
  let r' <-Ph r
  pure (x'::r')
def Mi:Option Operand->Option (Option AX)
 |none=>some none
 |some x=>(trX x).map some
def n6(P:Program)(ts:Array TypeId):List Nat:=
 (List.range P.funcs.size).filter fun f=>match P.funcs[f]? with
  |some fn=>fn.params==ts && (fn.body.isSome && fn.name != "runtime.NumGoroutine")
  |none=>false
def heapNames:List String:=["tranship/conv.Same","tranship/reckon.New","tranship/reckon.Close","tranship/reckon.Done","tranship/reckon.Fresh","tranship/reckon.under","tranship/reckon.Inst","tranship/reckon.part","(*tranship/reckon.Machine).Renew","(*tranship/reckon.Machine).work","(*tranship/reckon.Machine).see","(*tranship/reckon.Machine).take","(*tranship/reckon.Machine).weak","(*tranship/reckon.Machine).Head","(*tranship/reckon.Machine).sym","(*tranship/reckon.Machine).Sym","(*tranship/reckon.Machine).symbol","(*tranship/reckon.Machine).open","(*tranship/reckon.Machine).again","(*tranship/reckon.Machine).eval","(*tranship/reckon.Machine).node","(*tranship/reckon.Machine).Quote","(*tranship/reckon.Machine).Raw","(*tranship/reckon.Machine).Told","(*tranship/reckon.Machine).raw","(*tranship/reckon.Machine).Same","(*tranship/reckon.Machine).quick","(*tranship/reckon.Machine).same","(*tranship/reckon.Machine).values","(*tranship/reckon.Machine).plainly","(*tranship/reckon.Machine).heads","(*tranship/reckon.Machine).kids","(*tranship/sig.line).piece","(*tranship/read.reader).fail","(*tranship/read.reader).next","(*tranship/read.reader).level","(*tranship/read.reader).made","(*tranship/read.reader).name","(*tranship/read.reader).term","(*tranship/read.reader).list","(*tranship/read.reader).given","(*tranship/transhipref09.Reader).Kind","(*tranship/transhipref09.Reader).Word","(*tranship/transhipref09.Reader).Fail","(*tranship/transhipref09.Reader).Want","(*tranship/transhipref09.Reader).Level","(*tranship/transhipref09.Reader).push","(*tranship/transhipref09.Reader).pop","(*tranship/transhipref09.Reader).Term","(*tranship/transhipref09.Reader).list","(*tranship/transhipref09.Reader).body","(*tranship/transhipref18.Steps).Head","(*tranship/transhipref18.Steps).Norm","(*tranship/result.reader).fail","(*tranship/result.reader).place","(*tranship/result.reader).is","(*tranship/result.reader).take","(*tranship/result.reader).level","(*tranship/result.reader).close","(*tranship/result.reader).term","(*tranship/result.reader).body","tranship/kernel.begin","tranship/kernel.sorted","(*tranship/kernel.checker).deep","(*tranship/kernel.checker).push","(*tranship/kernel.checker).pop","(*tranship/kernel.checker).head","(*tranship/kernel.checker).sort","(*tranship/kernel.checker).family","(*tranship/kernel.checker).has","(*tranship/kernel.checker).two","(*tranship/kernel.checker).infer","(*tranship/kernel.checker).along","(*tranship/kernel.checker).use","(*tranship/kernel.checker).all","(*tranship/kernel.checker).try","(*tranship/mark.asker).types","(*tranship/mark.asker).has","(*tranship/mark.asker).family","(*tranship/mark.asker).typ","(*tranship/mark.asker).equal","tranship/transhipref28.number"]
def Av0:List SV->Bool
 |[.int _ _,.int _ _,.int _ _,.int _ _,.nils,.nilp,.bool _,.nilp,.nilp]=>true
 |[.int _ _,.int _ _,.int _ _,.int _ _,.nilm]=>true
 |[.str _,.nils,.int _ _]=>true
 |[.nils,.int _ _,.int _ _,.nils,.int _ _,.int _ _,.bool _,.int _ _]=>true
 |[.nils,.int _ _,.int _ _,.int _ _,.int _ _,.nils]=>true
 |[.int _ _,.bool _]=>true
 |[.str _,.nils,.int _ _,.int _ _,.bool _,.int _ _]=>true
 |[.nilp,.int _ _,.nils]=>true
 |[.float _ _]=>true
 |_=>false
def Ain (P:Program)(t:TypeId):Bool:=match Lb P t with
 |some z=>Av0 (cellsOf z)
 |none=>false
def Wf(P:Program)(t:TypeId):Option SV:=
 match P.underlying t with
 |some (.map kt et)=>match P.underlying kt with
  |some (.array 3 it)=>match P.underlying it with
   |some (.int .i64)=>match Lb P et with
    |some z=>if P.cellsOf it=1/\P.cellsOf kt=3/\P.keyType kt=true/\(cellsOf z).length=1 then some z else none
    |none=>none
   |_=>none
  |_=>none
 |_=>none
def Br(P:Program):Op->Option AOp
 |.move x=>(trX x).map .mv
 |.assign x=>(trX x).map .mv
 |.pick c a b=>do pure (.pick (<-trX c) (<-trX a) (<-trX b))
 |.alloc t=>(Lb P t).map fun z=>if Ain P t then .newg (cellsOf z) else .new (cellsOf z)
 |.box t x=>(trX x).map fun a=>if Ain P t then .boxg a else .box a
 |.makeMap _ none=>some .mkmap
 |.makeInterface t x=>match P.underlying t with
  |some (.struct fs)=>if fs.size=0 then (trX x).map (.ifc t) else none
  |_=>none
 |.panic x=>(trX x).map .pan
 |.build t parts=>
  match P.underlying t with
  |some (.struct fs)=>do
   let z <-Lb P t
   let ps <-Uj P t parts.toList
   if fs.toList.all (fun f=>(P.info? f.type).isSome) && ps.all (fun p=>p.1+p.2.1<=(cellsOf z).length && 0<p.2.1) then pure (.build (cellsOf z) ps) else none
  |some (.array n e)=>do
   let z <-Lb P t
   let xs <-Uk 0 parts.toList
   if xs.length=n/\P.cellsOf e=1/\(P.info? e).isSome/\(cellsOf z).length=n then pure (.arr xs) else none
  |_=>none
 |.buildSlice t len parts=>do
  let e <-Ls P t
  let xs <-Uk 0 parts.toList
  if xs.length=len/\0<P.cellsOf e/\len*P.cellsOf e<=2 ^ 24/\(Lb P e).isSome/\((Lb P e).map fun z=>(cellsOf z).length)=some (P.cellsOf e) then pure (.bslice (P.cellsOf e) xs) else none
 |.load t a=>do
  let ag <-Hb P t
  let x <-trX a
  if ag=true\/P.cellsOf t=1 then pure (.load ag (P.cellsOf t) x) else none
 |.store t a x=>do
  let ag <-Hb P t
  let a' <-trX a
  let x' <-trX x
  if (ag=true\/P.cellsOf t=1)/\0<P.cellsOf t then pure (.store (P.cellsOf t) a' x') else none
 |.nilCheck x=>(trX x).map .nilck
 |.binOp op t x y _=>
  match P.underlying t with
  |some (.int _)=>do pure (.bin 0 op (<-trX x) (<-trX y))
  |some .bool=>do pure (.bin 1 op (<-trX x) (<-trX y))
  |some (.float _)=>do pure (.bin 3 op (<-trX x) (<-trX y))
  |some (.pointer e)=>match P.info? e with
   |some i=>if i.size≠0 then do pure (.bin 2 op (<-trX x) (<-trX y)) else none
   |none=>none
  |some .string=>do pure (.bin 4 op (<-trX x) (<-trX y))
  |_=>none
 |.unOp op _ x=>(trX x).map (.un op)
 |.convert a b x=>
  match P.underlying a,P.underlying b with
  |some (.int _),some (.int k)=>(trX x).map (.conv k)
  |some (.int _),some (.float k)=>(trX x).map (.i2f k)
  |_,_=>none
 |.makeSlice t l c=>do
  let e <-Ls P t
  let z <-Lb P e
  if (cellsOf z).length=P.cellsOf e/\0<P.cellsOf e then pure (.mk (P.cellsOf e) (P.bytesOf e) (cellsOf z) (<-trX l) (<-trX c)) else none
 |.slice t x lo hi none=>
  match P.underlying t with
  |some (.slice e)=>do
   if (P.info? e).isSome/\0<P.cellsOf e then pure (.slc (P.cellsOf e) (<-trX x) (<-Mi lo) (<-Mi hi)) else none
  |some .string=>do pure (.slc 0 (<-trX x) (<-Mi lo) (<-Mi hi))
  |_=>none
 |.fieldAddr t x i=>do
  let f <-Pq P t i
  if P.cellsOf f.type=0 then none else pure (.fad f.offset (<-trX x))
 |.field t x i=>do
  let f <-Pq P t i
  let ag <-Hb P f.type
  if ag=true\/P.cellsOf f.type=1 then pure (.fld ag f.offset (P.cellsOf f.type) (<-trX x)) else none
 |.indexAddr t x i=>do
  let e <-Ls P t
  if 0<P.cellsOf e then pure (.iad (P.cellsOf e) (<-trX x) (<-trX i)) else none
 |.index t x i=>match P.underlying t with
  |some .string=>do pure (.six (<-trX x) (<-trX i))
  |_=>none
 |.lookup t x k true=>match Wf P t with
  |some z=>do pure (.mlk z (<-trX x) (<-trX k))
  |none=>none
 |.mapUpdate t m k v=>match Wf P t with
  |some _=>do pure (.mup (<-trX m) (<-trX k) (<-trX v))
  |none=>none
 |.extract x i=>(trX x).map fun x'=>.ext x' i
 |.call c=>
  match c.callee,c.args.toList with
  |.builtin .len,[x]=>
   if c.argTypes.size=0 then none else
   match P.underlying (c.argTypes.getD 0 0) with
   |some (.slice _)=>(trX x).map (.len false)
   |some .string=>(trX x).map (.len true)
   |_=>none
  |.builtin .append,[s,x]=>do
   let e <-Ls P (c.argTypes.getD 0 0)
   let z <-Lb P e
   if c.argTypes=#[c.argTypes.getD 0 0,c.argTypes.getD 0 0]/\0<P.cellsOf e/\(cellsOf z).length=P.cellsOf e then pure (.app (P.cellsOf e) (P.bytesOf e) (<-trX s) (<-trX x)) else none
  |.builtin .max,[x,y]=>do pure (.mnx true (<-trX x) (<-trX y))
  |.builtin .min,[x,y]=>do pure (.mnx false (<-trX x) (<-trX y))
  |.value (.func f),xs=>match P.funcs[f]? with
   |some fn=>if fn.body.isSome/\fn.name≠"runtime.NumGoroutine" then (Ph xs).map (fun l=>if heapNames.contains fn.name then .hcall f l else .call f l) else none
   |none=>none
  |.value (.tmp t),xs=>(Ph xs).map (.callv (n6 P c.argTypes) (.t t))
  |_,_=>none
 |_=>none
def Pg(P:Program)(ops:Array Oper)(o:Oper):Option Cd:=
 match Br P o.op with
 |some op=>match o.guard with
  |none=>some { d:=o.dst,op:=op,g:=none }
  |some (j,want)=>match (ops[j]?).bind (·.dst) with
   |some t=>some { d:=o.dst,op:=op,g:=some (t,want) }
   |none=>none
 |none=>none
def Qq(P:Program)(ops:Array Oper):List Oper->Option (List Cd)
 |[]=>some []
 |o::r=>do
  let o' <-Pg P ops o
  let r' <-Qq P ops r
  pure (o'::r')
def msk(acc:List Nat):List Edge->Nat
 |[]=>0
 |e::r=>if Region.binds .any e then msk acc r ||| 2 ^ e.on ||| acc.getD e.on 0 else msk acc r
def Md:List Oper->List Nat->List Nat
 |[],acc=>acc
 |o::r,acc=>Md r (acc++[msk acc o.after.toList])
def isH:AOp->Bool
 |.hcall ..=>true
 |_=>false
def Xn(x y:AOp):Bool:=!Abx x || !Abx y || (reader x && reader y)
def l9(m:List Nat)(l:List Cd):List Cd:=
 let at_:Nat->Nat->Bool:=fun i j=>!(m.getD j 0).testBit i && (match l[i]?,l[j]? with
  |some x,some y=>!Xn x.op y.op
  |_,_=>false)
 l.zipIdx.map fun (o,k)=>{ o with id:=k,chk:=((List.range k).filter fun i=>at_ i k)++(if isH o.op && (List.range l.length).all (fun j=>decide (j<=k) || (m.getD j 0).testBit k) then [k] else []),fp:=(List.range l.length).any fun j=>decide (k<j) && at_ k j }
def Jq(ops:Array Oper)(l:List Cd):Bool:=
 let m:=Md ops.toList []
 l.length==ops.size && (ops.toList.zipIdx.all fun (o,i)=>o.after.toList.all fun e=>!Region.binds .any e || decide (e.on<i)) &&
 (List.range l.length).all fun j=>(List.range j).all fun i=>
  match ops[i]?,ops[j]?,l[i]?,l[j]? with
  |some x,some y,some a,some b=>(m.getD j 0).testBit i || (!(a.chk.contains i) && Oper.apart ops x y && (Xn a.op b.op || (a.fp && a.id==i && b.chk.contains i)))
  |_,_,_,_=>false
def Ab4(m:List Nat)(n b:Nat):Bool:=(List.range n).all fun j=>decide (j<b) || (List.range b).all fun i=>(m.getD j 0).testBit i
def setNames:List String:=["tranship/conv.Same","(*tranship/reckon.Machine).Same","(*tranship/reckon.Machine).quick","(*tranship/reckon.Machine).same","(*tranship/reckon.Machine).values","(*tranship/reckon.Machine).plainly","(*tranship/reckon.Machine).heads","(*tranship/reckon.Machine).kids"]
def Axs(P:Program):AOp->Bool
 |.bin kd _ _ _=>kd==2
 |.hcall f _=>match P.funcs[f]? with
  |some fn=>setNames.contains fn.name
  |none=>false
 |_=>false
def Ug(P:Program)(m:List Nat)(n:Nat):List Cd->Nat->List Cd->AC
 |[],_,acc=>.reg acc true
 |o::r,k,acc=>if Axs P o.op && (Ab4 m n k && Ab4 m n (k+1)) then .cut (.reg acc true) (.cut (.reg [o] false) (Ug P m n r (k+1) [])) else Ug P m n r (k+1) (acc++[o])
def trC(P:Program):Code->Option AC
 |.skip=>some .skip
 |.region _ ops draw=>do
  let l <-Qq P ops ops.toList
  if draw then
   let l':=l9 (Md ops.toList []) l
   if Jq ops l' then pure (Ug P (Md ops.toList []) ops.size l' 0 []) else none
  else pure (.reg l false)
 |.seq a b=>do pure (.seq (<-trC P a) (<-trC P b))
 |.cond c a b=>do pure (.cond (<-trX c) (<-trC P a) (<-trC P b))
 |.block id b=>do pure (.blk id (<-trC P b))
 |.loop b=>do pure (.loop (<-trC P b))
 |.exit id=>some (.exit id)
 |.ret=>some .ret
 |_=>none
def trR(P:Program):List ResultVar->Option (List AR)
 |[]=>some []
 |.tmp t::r=>do pure (.t t::(<-trR P r))
 |.cell a t::r=>do
  let ag <-Hb P t
  if ag=true\/P.cellsOf t=1 then pure (.cell a ag (P.cellsOf t)::(<-trR P r)) else none
def trF(P:Program)(f:Func):Option AF:=
 match f.body with
 |some c=>do pure { ntmps:=f.ntmps,res:=<-trR P f.results.toList,body:=<-trC P c }
 |none=>none
open Go Go.RowKit
structure Mem where
 c:Nat->Nat->Option Value
 d:Nat->Option Nat
 p:Nat->Prop
 inj:∀i j b,d i=some b->d j=some b->i=j
instance:CoeFun Mem (fun _=>Nat->Nat->Option Value):=⟨Mem.c⟩
structure Mem.le(m m':Mem):Prop where
 c:∀b j v,m b j=some v->m' b j=some v
 d:∀i b,m.d i=some b->m'.d i=some b
 p:∀b,m.p b->m'.p b
def Mem.le.refl(m:Mem):m.le m:=⟨fun _ _ _ h=>h,fun _ _ h=>h,fun _ h=>h⟩
def Mem.le.trans{a b c:Mem}(h:a.le b)(k:b.le c):a.le c:=⟨fun _ _ _ hv=>k.c _ _ _ (h.c _ _ _ hv),fun _ _ hv=>k.d _ _ (h.d _ _ hv),fun _ hv=>k.p _ (h.p _ hv)⟩
inductive Rep(m:Mem):Value->SV->Prop
 |bool (b:Bool):Rep m (.bool b) (.bool b)
 |int (k:IntKind) (n:Int):Rep m (.int k n) (.int k n)
 |float (k:FloatKind) (b:Nat):Rep m (.float k b) (.float k b)
 |str (s:ByteArray):Rep m (.string s) (.str s)
 |nilp:Rep m (.pointer none) .nilp
 |nils:Rep m (.slice none 0 0) .nils
 |fn (f:Nat):Rep m (.func (.func f) #[] #[]) (.fn f)
 |gp (i c b:Nat):m.d i=some b->m.p b->Rep m (.pointer (some ⟨b,c,none⟩)) (.gp i c)
 |mp (i b:Nat):m.d i=some b->Rep m (.map (some b)) (.mp i)
 |nilm:Rep m (.map none) .nilm
 |ife (t:Nat):Rep m (.iface t (.agg #[])) (.ife t)
 |lit (A:Option Addr) (n cap:Nat):Rep m (.slice A n cap) (.lit A n cap)
 |dref (sz:Nat) (l:List SV) (c b off:Nat) (vs:List Value):(∀v∈vs,v.oneCell'=true)->vs.length=sz->l.length=sz->(∀j v,vs[j]?=some v->m b (off+j)=some v)->(psz l=true->m.p b) ->
   (∀(j:Nat) (v:Value) (x:SV),vs[j]?=some v->l[j]?=some x->Rep m v x)->Rep m (.pointer (some ⟨b,off+c,none⟩)) (.dref sz l c)
 |dsl0 (sz:Nat) (A:Option Addr) (cap:Nat):Rep m (.slice A 0 cap) (.dsl sz [])
 |dsl (sz:Nat) (l:GV) (cap b off:Nat) (vs:List Value):(∀v∈vs,v.oneCell'=true)->l.length<=cap->l.length<=140737488355328->(∀r∈l,r.length=sz)->vs.length=l.flatten.length ->
   (∀j v,vs[j]?=some v->m b (off+j)=some v)->(∀(j:Nat) (v:Value) (x:SV),vs[j]?=some v->l.flatten[j]?=some x->Rep m v x) ->
   Rep m (.slice (some ⟨b,off,none⟩) l.length cap) (.dsl sz l)
 |agg (vs:List Value) (l:List SV):(∀v∈vs,v.oneCell'=true)->vs.length=l.length->(∀(j:Nat) (v:Value) (x:SV),vs[j]?=some v->l[j]?=some x->Rep m v x)->Rep m (.agg vs.toArray) (.agg true l)
 |tup (vs:List Value) (l:List SV):vs.length=l.length->(∀(j:Nat) (v:Value) (x:SV),vs[j]?=some v->l[j]?=some x->Rep m v x)->Rep m (.tuple vs.toArray) (.tup l)
def Rep.mono{m m':Mem}(h:m.le m'){v:Value}{s:SV}(r:Rep m v s):Rep m' v s:=by
 induction r with
 |bool b=>exact .bool b
 |int k n=>exact .int k n
 |float k b=>exact .float k b
 |str s=>exact .str s
 |nilp=>exact .nilp
 |nils=>exact .nils
 |fn f=>exact .fn f
 |gp i c b hb hp=>exact .gp i c b (h.d _ _ hb) (h.p _ hp)
 |mp i b hb=>exact .mp i b (h.d _ _ hb)
 |nilm=>exact .nilm
 |ife t=>exact .ife t
 |lit A n cap=>exact .lit A n cap
 |dref sz l c b off vs h0 h1 h2 h3 hp _ ih=>exact .dref sz l c b off vs h0 h1 h2 (fun j v hv=>h.c _ _ _ (h3 j v hv)) (fun e=>h.p _ (hp e)) ih
 |dsl0 sz A cap=>exact .dsl0 sz A cap
 |dsl sz l cap b off vs h0 h1 h2 h3 h4 h5 _ ih=>exact .dsl sz l cap b off vs h0 h1 h2 h3 h4 (fun j v hv=>h.c _ _ _ (h5 j v hv)) ih
 |agg vs l h0 h1 _ ih=>exact .agg vs l h0 h1 ih
 |tup vs l h1 _ ih=>exact .tup vs l h1 ih
structure Env where
 m:Mem
 m0:Mem
 H:Nat->Option Ob
 β:Nat->Nat
 t:Nat->Nat
inductive RelV(E:Env):Value->SV->Prop
 |J (v:Value):RelV E v .J
 |undef:RelV E undef .undef
 |rep (v:Value) (s:SV):Rep E.m v s->RelV E v s
 |ref (o g e c:Nat) (b j:Nat) (ob:Ob):E.H o=some ob->g<=ob.gen->(ob.gen=g->b=E.β o/\j=e*ob.sz+c)->RelV E (.pointer (some ⟨b,j,none⟩)) (.ref o g e c)
 |osl (o g off len:Nat) (A:Option Addr) (n cap:Nat) (ob:Ob):E.H o=some ob->g<=ob.gen->n=len/\len<=cap/\(0<len->∃b j,A=some ⟨b,j,none⟩) ->
   (ob.gen=g->off+len<=ob.els.length/\((A=some ⟨E.β o,off*ob.sz,none⟩/\(off+cap)*ob.sz<=E.t o)\/cap=0))->RelV E (.slice A n cap) (.osl o g off len)
 |agg (vs:List Value) (l:List SV):(∀v∈vs,v.oneCell'=true)->vs.length=l.length->(∀(j:Nat) (v:Value) (x:SV),vs[j]?=some v->l[j]?=some x->RelV E v x)->RelV E (.agg vs.toArray) (.agg false l)
structure Ext0(E E':Env):Prop where
 m:E.m.le E'.m
 H:∀o ob,E.H o=some ob->∃ob',E'.H o=some ob'/\ob'.sz=ob.sz/\ob.gen<=ob'.gen/\(ob'.gen=ob.gen->E'.β o=E.β o/\E'.t o=E.t o/\ob.els.length<=ob'.els.length)
 z:E'.m0=E.m0
structure Ext(E E':Env):Prop extends Ext0 E E' where
 d:E'.m.d=E.m.d
def Ext0.refl(E:Env):Ext0 E E:=⟨.refl _,fun _ ob h=>⟨ob,h,rfl,q_ja _,fun _=>⟨rfl,rfl,q_ja _⟩⟩,rfl⟩
def Ext.refl(E:Env):Ext E E:=⟨Ext0.refl E,rfl⟩
def Ext0.trans{a b c:Env}(h:Ext0 a b)(k:Ext0 b c):Ext0 a c:=by
 refine⟨h.m.trans k.m,fun o ob ho=>?_,k.z.trans h.z⟩;obtain⟨ob1,h1,h2,h3,h4⟩:=h.H o ob ho;obtain⟨ob2,k1,k2,k3,k4⟩:=k.H o ob1 h1;refine⟨ob2,k1,k2.trans h2,by omega,fun hg=>?_⟩;obtain⟨a1,a2,a3⟩:=h4 (by omega);obtain⟨b1,b2,b3⟩:=k4 (by omega);exact⟨b1.trans a1,b2.trans a2,by omega⟩
def Ext.trans{a b c:Env}(h:Ext a b)(k:Ext b c):Ext a c:=⟨h.toExt0.trans k.toExt0,k.d.trans h.d⟩
def RelV.mono0{E E':Env}(h:Ext0 E E'){v:Value}{s:SV}(r:RelV E v s):RelV E' v s:=by
 induction r with
 |J v=>exact .J v
 |undef=>exact .undef
 |rep v s hr=>exact .rep v s (hr.mono h.m)
 |ref o g e c b j ob h1 h2 h3=>
  obtain⟨ob',k1,k2,k3,k4⟩:=h.H o ob h1;refine .ref o g e c b j ob' k1 (by omega) (fun hg=>?_);obtain⟨a1,a2,a3⟩:=k4 (by omega);rw[k2,a1];exact h3 (by omega)
 |osl o g off len A n cap ob h1 h2 hnl h3=>
  obtain⟨ob',k1,k2,k3,k4⟩:=h.H o ob h1;refine .osl o g off len A n cap ob' k1 (by omega) hnl (fun hg=>?_);obtain⟨a1,a2,a3⟩:=k4 (by omega);obtain⟨b3,b4⟩:=h3 (by omega);rw[k2,a1,a2];exact⟨by omega,b4⟩
 |agg vs l h0 h1 _ ih=>exact .agg vs l h0 h1 ih
def RelV.mono{E E':Env}(h:Ext E E'){v:Value}{s:SV}(r:RelV E v s):RelV E' v s:=r.mono0 h.toExt0
structure Ab9(n0:Nat)(own:Nat->Prop)(E:Env)(w:World)(o:Nat)(ob:Ob)(c:Array Value)(e:TypeId):Prop where
 blk:w.heap[E.β o]?=some (.cells c e (0,0))
 size:c.size=E.t o
 new:n0<=E.β o\/own (E.β o)
 rel:∀(k:Nat) (v:Value) (x:SV),c[k]?=some v->ob.els.flatten[k]?=some x->RelV E v x
 one:∀(k:Nat) (v:Value),c[k]?=some v->v.oneCell'=true
 old:∀k,k<ob.frz*ob.sz->E.m (E.β o) k=c[k]?
 free:∀k,ob.frz*ob.sz<=k->E.m (E.β o) k=none
 clo:(ob.box=false\/ob.cl=true)->∀(k:Nat) (v:Value) (x:SV),c[k]?=some v->ob.els.flatten[k]?=some x->Rep E.m v x
 pl:E.m.p (E.β o)
structure Ani(n0:Nat)(own:Nat->Prop)(E:Env)(w:World)(o:Nat)(ob:Ob):Prop where
 rows:∀r∈ob.els,r.length=ob.sz
 frz:ob.frz<=ob.els.length
 fit:ob.els.length*ob.sz<=E.t o
 box:ob.box=true->ob.els.length=1
 bnd:ob.els.length<=140737488355328
 live:0<E.t o->∃c e,Ab9 n0 own E w o ob c e
def Abp:Option Nat:=some 0
def j9(b:Nat)(w:World):Prop:=∃e f,w.heap[b]?=some (.cells ((List.range 20).map fun i=>Value.int .u64 ((10 ^ i:Nat):Int)).toArray e f)
def Agk(w0:World)(own:Nat->Prop)(m0:Mem):Prop:=∀b,Abp=some b->b<w0.heap.size/\¬own b/\j9 b w0/\∃v,m0 b 0=some v
def TabM(m:Mem)(w:World):Prop:=∀b,Abp=some b->j9 b w/\∃v,m b 0=some v
def TabM.tb{m:Mem}{w:World}(h:TabM m w){own:Nat->Prop}(ho:∀b v,m b 0=some v->¬own b):Agk w own m:=fun b hb=>
 let ⟨⟨e,f,h1⟩,v,h2⟩:=h b hb
 ⟨(Array.getElem?_eq_some_iff.1 h1).1,ho b v h2,⟨e,f,h1⟩,v,h2⟩
def Fk(m:Mem)(w:World):Prop:=(∀b j v,m b j=some v->w.cell? ⟨b,j,none⟩=some v)/\(∀b,m.p b->∃c e,w.heap[b]?=some (.cells c e (0,0)))/\TabM m w
structure W(w0:World)(own:Nat->Prop)(E:Env)(w:World):Prop where
 os:w.os=w0.os
 tape:w.tape=w0.tape
 output:w.output=w0.output
 size:w0.heap.size<=w.heap.size
 block:∀k,k<w0.heap.size->¬own k->w.heap[k]?=w0.heap[k]?
 mem:∀b j v,E.m b j=some v->w.cell? ⟨b,j,none⟩=some v
 obs:∀o ob,E.H o=some ob->Ani w0.heap.size own E w o ob
 inj:∀o o' ob ob',E.H o=some ob->E.H o'=some ob'->o≠o'->0<E.t o->0<E.t o'->E.β o≠E.β o'
 keep:∀b j,b<w0.heap.size->¬own b->E.m b j=E.m0 b j
 pl:∀b,E.m.p b->∃c e,w.heap[b]?=some (.cells c e (0,0))
 tb:Agk w0 own E.m0
def W.tab{w0:World}{own:Nat->Prop}{E:Env}{w:World}(h:W w0 own E w):TabM E.m w:=fun b hb=>
 let ⟨h1,h2,⟨e,f,h3⟩,v,h4⟩:=h.tb b hb
 ⟨⟨e,f,(h.block b h1 h2).trans h3⟩,v,(h.keep b 0 h1 h2).trans h4⟩
def Iu{α:Type}{sz:Nat}{l:List (List α)}(h:∀r∈l,r.length=sz):l.flatten.length=l.length*sz:=by
 induction l with
 |nil=>simp
 |cons r l ih=>
  rw[List.flatten_cons,q_jr,h r (by simp),ih (fun r hr=>h r (by simp[hr])),q_jk,Nat.succ_mul,Nat.add_comm]
def Pr{α:Type}{sz:Nat}{l:List (List α)}(h:∀r∈l,r.length=sz)(i j:Nat)(hj:j<sz):l.flatten[i*sz+j]?=(l[i]?).bind (fun r=>r[j]?):=by
 induction l generalizing i with
 |nil=>simp
 |cons r l ih=>
  have hr:=h r (by simp);rw[List.flatten_cons];cases i with
  |zero=>simp[List.getElem?_append,hr,hj]
  |succ i=>
   rw[q_jj (by rw[hr,Nat.succ_mul];omega),hr,show (i+1)*sz+j-sz=i*sz+j by rw[Nat.succ_mul];omega];rw[ih (fun r hr=>h r (by simp[hr]))];simp
def u9{α:Type}{sz:Nat}{l:List (List α)}(h:∀r∈l,r.length=sz)(n:Nat):(l.drop n).flatten=l.flatten.drop (n*sz):=by
 induction n generalizing l with
 |zero=>simp
 |succ n ih=>
  cases l with
  |nil=>simp
  |cons r l=>
   have hr:=h r (by simp);rw[List.drop_succ_cons,ih (fun r hr=>h r (by simp[hr])),List.flatten_cons,List.drop_append,hr,Nat.succ_mul,show n*sz+sz-sz=n*sz by omega,List.drop_eq_nil_of_le (as:=r) (i:=n*sz+sz) (by omega),q_km]
def v6{α:Type}{sz:Nat}{l:List (List α)}(h:∀r∈l,r.length=sz)(n:Nat):(l.take n).flatten=l.flatten.take (n*sz):=by
 induction n generalizing l with
 |zero=>simp
 |succ n ih=>
  cases l with
  |nil=>simp
  |cons r l=>
   have hr:=h r (by simp);rw[List.take_succ_cons,List.flatten_cons,ih (fun r hr=>h r (by simp[hr])),List.flatten_cons,List.take_append,hr,Nat.succ_mul,show n*sz+sz-sz=n*sz by omega,q_js (l:=r) (i:=n*sz+sz) (by omega)]
def W.drew{w0:World}{own:Nat->Prop}{E:Env}{w:World}(h:W w0 own E w):W w0 own E { w with drawn:=w.drawn+1 }:=
 ⟨h.os,h.tape,h.output,h.size,h.block,h.mem,fun o ob ho=>⟨(h.obs o ob ho).rows,(h.obs o ob ho).frz,(h.obs o ob ho).fit,(h.obs o ob ho).box,(h.obs o ob ho).bnd,fun ht=>
  let ⟨c,e,k⟩:=(h.obs o ob ho).live ht
  ⟨c,e,⟨k.blk,k.size,k.new,k.rel,k.one,k.old,k.free,k.clo,k.pl⟩⟩⟩,h.inj,h.keep,h.pl,h.tb⟩
def W.lt{w0:World}{own:Nat->Prop}{E:Env}{w:World}(h:W w0 own E w){o:Nat}{ob:Ob}(ho:E.H o=some ob)(ht:0<E.t o):E.β o<w.heap.size:=by
 obtain⟨c,e,k⟩:=(h.obs o ob ho).live ht;rcases q_jo (E.β o) w.heap.size with h1|h1
 ·exact h1
 ·have:=k.blk;rw[Array.getElem?_eq_none h1] at this;cases this
def Wg{w:World}{b j:Nat}{v:Value}(h:w.cell? ⟨b,j,none⟩=some v):b<w.heap.size:=by
 have:=World.block_lt_of_cell? w ⟨b,j,none⟩ h;exact this
def Pm{w:World}{b:Nat}{c:Array Value}{e:TypeId}(h:w.heap[b]?=some (.cells c e (0,0)))(j:Nat):w.cell? ⟨b,j,none⟩=c[j]?:=by
 simp[World.cell?,h]
def W.put{w0:World}{own:Nat->Prop}{E:Env}{w w':World}(h:W w0 own E w){o:Nat}{ob ob':Ob}{c c':Array Value}{e:TypeId}(ho:E.H o=some ob)
  (hl:Ab9 w0.heap.size own E w o ob c e) (h1:w'.os=w.os) (h2:w'.tape=w.tape) (h3:w'.output=w.output) (h4:w'.heap.size=w.heap.size) (h5:∀k,k≠E.β o->w'.heap[k]?=w.heap[k]?)
  (h6:w'.heap[E.β o]?=some (.cells c' e (0,0))) (hc:c'.size=c.size) (hz:ob'.sz=ob.sz) (hg:ob.gen<=ob'.gen) (Bl:ob.els.length<=ob'.els.length) (Sz:ob.frz<=ob'.frz)
  (Tj:∀j,j<ob.frz*ob.sz->c'[j]?=c[j]?) (hr:∀r∈ob'.els,r.length=ob'.sz) (hf:ob'.frz<=ob'.els.length) (Ew:ob'.els.length*ob.sz<=c.size) (Jj:ob'.box=true->ob'.els.length=1) (Jv:ob'.els.length<=140737488355328) (Fi:∀(k:Nat) (v:Value),c'[k]?=some v->v.oneCell'=true)
  (Er:∀(k:Nat) (v:Value) (x:SV),c'[k]?=some v->ob'.els.flatten[k]?=some x->RelV E v x)
  (Sx:(ob'.box=false\/ob'.cl=true)->∀(k:Nat) (v:Value) (x:SV),c'[k]?=some v->ob'.els.flatten[k]?=some x->Rep E.m v x) :
  ∃E',Ext E E'/\W w0 own E' w'/\E'.H=(fun i=>if i=o then some ob' else E.H i)/\E'.β=E.β/\E'.t=E.t/\(∀j,j<ob'.frz*ob.sz->E'.m (E.β o) j=c'[j]?)/\(∀b j,b≠E.β o->E'.m b j=E.m b j):=by
 let E':Env:={ E with m:=⟨fun b j=>if b=E.β o then (if j<ob'.frz*ob.sz then c'[j]? else none) else E.m b j,E.m.d,E.m.p,E.m.inj⟩,H:=fun i=>if i=o then some ob' else E.H i }
 have hle:ob.frz*ob.sz<=ob'.frz*ob.sz:=q_jy _ Sz;have hm:E.m.le E'.m:=by
  refine⟨?_,fun _ _ h=>h,fun _ h=>h⟩;intro b j v hv
  by_cases hb:b=E.β o
  ·subst hb;rcases q_jo j (ob.frz*ob.sz) with hj|hj
   ·rw[hl.old j hj] at hv;simp only[E',if_true,if_pos (show j<ob'.frz*ob.sz by omega)];rw[Tj j hj];exact hv
   ·rw[hl.free j hj] at hv;cases hv
  ·simp only[E',if_neg hb];exact hv
 have hext:Ext E E':=by
  refine⟨⟨hm,fun i ob1 hi=>?_,rfl⟩,rfl⟩
  by_cases Ej:i=o
  ·subst Ej;rw[ho] at hi;cases hi;exact⟨ob',by simp[E'],hz,hg,fun _=>⟨rfl,rfl,Bl⟩⟩
  ·exact⟨ob1,by simp only[E',if_neg Ej];exact hi,rfl,q_ja _,fun _=>⟨rfl,rfl,q_ja _⟩⟩
 have ht:0<E.t o\/E.t o=0:=by omega
 refine⟨E',hext,⟨h1.trans h.os,h2.trans h.tape,h3.trans h.output,by rw[h4];exact h.size,fun k hk hown=>?_,fun b j v hv=>?_,fun i ob1 hi=>?_,fun i i' ob1 ob2 hi Dk Dj Tq Kt=>?_,fun b j hb hown=>by
  simp only[E'];rw[if_neg ?_]
  ·exact h.keep b j hb hown
  ·rintro rfl;rcases hl.new with hn|hn
   ·omega
   ·exact hown hn,fun b hb=>by
   by_cases Xy:b=E.β o
   ·subst Xy;exact⟨c',e,h6⟩
   ·obtain⟨c1,e1,h1⟩:=h.pl b hb;exact⟨c1,e1,by rw[h5 b Xy];exact h1⟩,h.tb⟩,rfl,rfl,rfl,fun j hj=>?_,fun b j hb=>?_⟩
 ·rw[h5 k ?_]
  ·exact h.block k hk hown
  ·rintro rfl;rcases hl.new with hn|hn
   ·omega
   ·exact hown hn
 ·by_cases hb:b=E.β o
  ·subst hb;rw[Pm h6];simp only[E',if_true] at hv;split at hv
   ·exact hv
   ·cases hv
  ·simp only[E',if_neg hb] at hv;have:=h.mem b j v hv;rw[<-this];exact World.cell?_of_block (w:=w) (h5 b hb)
 ·by_cases Ej:i=o
  ·subst Ej;have:ob1=ob':=by simp[E'] at hi;exact hi.symm
   subst this;refine⟨hr,hf,by rw[hz];show _<=E.t i;rw[<-hl.size];exact Ew,Jj,Jv,fun _=>⟨c',e,⟨h6,by rw[hc];exact hl.size,hl.new,fun k v x hv hx=>(Er k v x hv hx).mono hext,Fi,fun k hk=>?_,fun k hk=>?_,fun hb k v x hv hx=>(Sx hb k v x hv hx).mono hm,hl.pl⟩⟩⟩
   ·rw[hz] at hk;simp only[E',if_true,if_pos hk]
   ·rw[hz] at hk;simp only[E',if_true,if_neg (show ¬k<ob1.frz*ob.sz by omega)]
  ·have Dk:E.H i=some ob1:=by simpa [E',Ej] using hi
   have hk:=h.obs i ob1 Dk;refine⟨hk.rows,hk.frz,hk.fit,hk.box,hk.bnd,fun Yy=>?_⟩;obtain⟨c1,e1,k⟩:=hk.live Yy
   by_cases hto:0<E.t o
   have Dj:E.β i≠E.β o:=h.inj i o ob1 ob Dk ho Ej Yy hto;rotate_left
   -- the row of o is empty
   have Sw:c.size=0:=by rw[hl.size];omega
   have Dj:E.β i≠E.β o:=by
    intro heq;have hb1:=k.blk;rw[heq,hl.blk] at hb1;injection hb1 with hb1
    injection hb1 with hb1
    subst hb1;have h1:=k.size;have h2:0<E.t i:=Yy;omega
   rotate_left
   all_goals
    refine⟨c1,e1,⟨by show w'.heap[E.β i]?=_;rw[h5 _ Dj];exact k.blk,k.size,k.new,fun j v x hv hx=>(k.rel j v x hv hx).mono hext,k.one,fun j hj=>?_,fun j hj=>?_,fun hb j v x hv hx=>(k.clo hb j v x hv hx).mono hm,k.pl⟩⟩
    ·show E'.m (E.β i) j=_;simp only[E',if_neg Dj];exact k.old j hj
    ·show E'.m (E.β i) j=_;simp only[E',if_neg Dj];exact k.free j hj
 ·have Lw:∃ob3,E.H i=some ob3:=by
   by_cases Ej:i=o
   ·exact⟨ob,Ej ▸ ho⟩
   ·exact⟨ob1,by simpa [E',Ej] using hi⟩
  have Lx:∃ob3,E.H i'=some ob3:=by
   by_cases Ej:i'=o
   ·exact⟨ob,Ej ▸ ho⟩
   ·exact⟨ob2,by simpa [E',Ej] using Dk⟩
  obtain⟨ob3,Sp⟩:=Lw;obtain⟨ob4,h4'⟩:=Lx;exact h.inj i i' ob3 ob4 Sp h4' Dj Tq Kt
 ·simp only[E',if_true,if_pos hj]
 ·simp only[E',if_neg hb]
def W.put0{w0:World}{own:Nat->Prop}{E:Env}{w:World}(h:W w0 own E w){o:Nat}{ob ob':Ob}(ho:E.H o=some ob)(ht:E.t o=0)
  (hz:ob'.sz=ob.sz) (hg:ob.gen<=ob'.gen) (Bl:ob.els.length<=ob'.els.length) (hr:∀r∈ob'.els,r.length=ob'.sz) (hf:ob'.frz<=ob'.els.length) (Ew:ob'.els.length*ob.sz<=0) (Jj:ob'.box=true->ob'.els.length=1) (Jv:ob'.els.length<=140737488355328) :
  ∃E',Ext E E'/\W w0 own E' w/\E'.H=(fun i=>if i=o then some ob' else E.H i)/\E'.β=E.β/\E'.t=E.t/\E'.m=E.m:=by
 let E':Env:={ E with H:=fun i=>if i=o then some ob' else E.H i }
 have hext:Ext E E':=by
  refine⟨⟨.refl _,fun i ob1 hi=>?_,rfl⟩,rfl⟩
  by_cases Ej:i=o
  ·subst Ej;rw[ho] at hi;cases hi;exact⟨ob',by simp[E'],hz,hg,fun _=>⟨rfl,rfl,Bl⟩⟩
  ·exact⟨ob1,by simp only[E',if_neg Ej];exact hi,rfl,q_ja _,fun _=>⟨rfl,rfl,q_ja _⟩⟩
 refine⟨E',hext,⟨h.os,h.tape,h.output,h.size,h.block,h.mem,fun i ob1 hi=>?_,fun i i' ob1 ob2 hi Dk Dj Tq Kt=>?_,h.keep,h.pl,h.tb⟩,rfl,rfl,rfl,rfl⟩
 ·by_cases Ej:i=o
  ·subst Ej;have:ob1=ob':=by simp[E'] at hi;exact hi.symm
   subst this;exact⟨hr,hf,by rw[hz];show _<=E.t i;omega,Jj,Jv,fun h0=>by have:0<E.t i:=h0;omega⟩
  ·have Dk:E.H i=some ob1:=by simpa [E',Ej] using hi
   have hk:=h.obs i ob1 Dk;refine⟨hk.rows,hk.frz,hk.fit,hk.box,hk.bnd,fun Yy=>?_⟩;obtain⟨c1,e1,k⟩:=hk.live Yy;exact⟨c1,e1,⟨k.blk,k.size,k.new,fun j v x hv hx=>(k.rel j v x hv hx).mono hext,k.one,k.old,k.free,k.clo,k.pl⟩⟩
 ·have h1:i≠o:=by rintro rfl;have:0<E.t i:=Tq;omega
  have h2:i'≠o:=by rintro rfl;have:0<E.t i':=Kt;omega
  exact h.inj i i' ob1 ob2 (by simpa [E',h1] using hi) (by simpa [E',h2] using Dk) Dj Tq Kt
def W.freeze{w0:World}{own:Nat->Prop}{E:Env}{w:World}(h:W w0 own E w){o:Nat}{ob:Ob}(ho:E.H o=some ob) :
  ∃E',Ext E E'/\W w0 own E' w/\E'.H=(fun i=>if i=o then some { ob with frz:=ob.els.length } else E.H i)/\E'.β=E.β/\E'.t=E.t /\
   (∀k v,ob.els.flatten[k]?≠none->w.cell? ⟨E.β o,k,none⟩=some v->E'.m (E.β o) k=some v)/\(∀b j,b≠E.β o->E'.m b j=E.m b j):=by
 have hk:=h.obs o ob ho;have Hp:=Iu hk.rows;rcases Nat.eq_zero_or_pos (E.t o) with ht|ht
 ·have Ew:=hk.fit;rw[ht] at Ew;obtain⟨E',a1,a2,a3,a4,a5,a6⟩:=h.put0 (ob':={ ob with frz:=ob.els.length }) ho ht rfl (q_ja _) (q_ja _) hk.rows (q_ja _) Ew hk.box hk.bnd;refine⟨E',a1,a2,a3,a4,a5,fun k v Dj _=>?_,fun b j _=>by rw[a6]⟩;exfalso;apply Dj;rw[q_jd];omega
 ·obtain⟨c,e,hl⟩:=hk.live ht;obtain⟨E',a1,a2,a3,a4,a5,a6,a7⟩:=h.put (w':=w) (ob':={ ob with frz:=ob.els.length }) ho hl rfl rfl rfl rfl (fun _ _=>rfl) hl.blk rfl rfl (q_ja _) (q_ja _) hk.frz
   (fun _ _=>rfl) hk.rows (q_ja _) (by rw[hl.size];exact hk.fit) hk.box hk.bnd hl.one hl.rel hl.clo
  refine⟨E',a1,a2,a3,a4,a5,fun k v Dj hv=>?_,a7⟩;rw[a6 k ?_]
  ·rw[Pm hl.blk] at hv;exact hv
  ·show k<ob.els.length*ob.sz;rw[<-Hp];rcases q_jo k ob.els.flatten.length with h1|h1
   ·exact h1
   ·exact absurd (q_jd h1) Dj
structure Step(U:Nat->Prop)(w0:World)(own:Nat->Prop)(E E':Env)(w':World)(hp':List Ob):Prop where
 ext:Ext E E'
 wo:W w0 own E' w'
 on:∀o,U o->E'.H o=hp'[o]?
 off:∀o,¬U o->E'.H o=E.H o
def RelV.closed_rep{E:Env}{v:Value}{s:SV}(h:RelV E v s)(hc:s.closed=true):Rep E.m v s:=by
 cases h with
 |J=>simp[SV.closed] at hc
 |undef=>simp[SV.closed] at hc
 |rep _ _ hr=>exact hr
 |ref=>simp[SV.closed] at hc
 |osl=>simp[SV.closed] at hc
 |agg=>simp[SV.closed] at hc
def RelV.tup_rep{E:Env}{v:Value}{l:List SV}(h:RelV E v (.tup l)):Rep E.m v (.tup l):=by
 cases h with
 |rep _ _ hr=>exact hr
def Wi{c:Array Value}{vs:List Value}(h:∀(k:Nat) (v:Value),c[k]?=some v->v.oneCell'=true)(hs:∀v∈vs,v∈c.toList):∀v∈vs,v.oneCell'=true:=fun v hv=>by
 obtain⟨k,hk⟩:=q_jw (hs v hv);exact h k v (by simpa using hk)
def A1n{w0:World}{own:Nat->Prop}{E E':Env}{w:World}(h:W w0 own E w){o off len cap:Nat}{ob:Ob}{A:Option Addr}(ho:E.H o=some ob)(hb:ob.box=false\/ob.cl=true)
  (In:len<=cap) (Ew:off+len<=ob.els.length) (hA:(A=some ⟨E.β o,off*ob.sz,none⟩/\(off+cap)*ob.sz<=E.t o)\/cap=0) (hm:E.m.le E'.m)
  (hf:∀k v,ob.els.flatten[k]?≠none->w.cell? ⟨E.β o,k,none⟩=some v->E'.m (E.β o) k=some v):Rep E'.m (.slice A len cap) (.dsl ob.sz ((ob.els.drop off).take len)):=by
 have hk:=h.obs o ob ho;have Ft:∀r∈(ob.els.drop off).take len,r.length=ob.sz:=fun r hr=>hk.rows r (List.mem_of_mem_drop (List.mem_of_mem_take hr))
 have Bl:((ob.els.drop off).take len).length=len:=by simp;omega
 rcases Nat.eq_zero_or_pos len with h0|h0
 ·subst h0;simpa using Rep.dsl0 ob.sz A cap
 ·rcases hA with⟨rfl,Ou⟩|hc
  rotate_left
  ·omega
  have Hp:((ob.els.drop off).take len).flatten=(ob.els.flatten.drop (off*ob.sz)).take (len*ob.sz):=by
   rw[v6 (sz:=ob.sz) (fun r hr=>hk.rows r (List.mem_of_mem_drop hr)),u9 hk.rows]
  have hflen:=Iu Ft;rw[Bl] at hflen;have Gc:=Iu hk.rows;have Ma:(off+len)*ob.sz<=ob.els.length*ob.sz:=q_jy _ Ew;rw[Nat.add_mul] at Ma;have key:∃vs:List Value,(∀v∈vs,v.oneCell'=true)/\vs.length=len*ob.sz/\(∀j v,vs[j]?=some v->E'.m (E.β o) (off*ob.sz+j)=some v) /\
    (∀(j:Nat) (v:Value) (x:SV),vs[j]?=some v->((ob.els.drop off).take len).flatten[j]?=some x->Rep E'.m v x):=by
   rcases Nat.eq_zero_or_pos (E.t o) with ht|ht
   ·refine⟨[],by simp,?_,by simp,by simp⟩;have:len*ob.sz<=(off+cap)*ob.sz:=q_jy _ (by omega);simp;omega
   ·obtain⟨c,e,hl⟩:=hk.live ht;have hcs:=hl.size;have hfit1:=hk.fit;refine⟨(c.toList.drop (off*ob.sz)).take (len*ob.sz),Wi hl.one (fun v hv=>List.mem_of_mem_drop (List.mem_of_mem_take hv)),by simp;omega,fun j v hv=>?_,fun j v x hv hx=>?_⟩
    ·rw[q_jx] at hv;split at hv
     ·rename_i hj;rw[q_kk] at hv;refine hf _ _ ?_ ?_
      ·rw[q_f (by omega)];simp
      ·rw[Pm hl.blk];simpa using hv
     ·cases hv
    ·rw[Hp] at hx;rw[q_jx] at hv hx;split at hv
     ·rename_i hj;rw[if_pos hj,q_kk] at hx;rw[q_kk] at hv;exact (hl.clo hb _ v x (by simpa using hv) hx).mono hm
     ·cases hv
  obtain⟨vs,So,h1,h2,h3⟩:=key;have:=Rep.dsl (m:=E'.m) ob.sz ((ob.els.drop off).take len) cap (E.β o) (off*ob.sz) vs So (by omega) (by have:=hk.bnd;omega) Ft (by omega) h2 h3;rw[Bl] at this;exact this
def Step.refl{U:Nat->Prop}{w0:World}{own:Nat->Prop}{E:Env}{w:World}{hp:List Ob}(h:W w0 own E w)(hu:∀o,U o->E.H o=hp[o]?):Step U w0 own E E w hp:=
 ⟨Ext.refl E,h,hu,fun _ _=>rfl⟩
def Step.trans{U:Nat->Prop}{w0:World}{own:Nat->Prop}{E E1 E2:Env}{w1 w2:World}{hp1 Nw:List Ob}(h:Step U w0 own E E1 w1 hp1)(k:Step U w0 own E1 E2 w2 Nw):Step U w0 own E E2 w2 Nw:=
 ⟨h.ext.trans k.ext,k.wo,k.on,fun o ho=>(k.off o ho).trans (h.off o ho)⟩
def Sd(hp:List Ob)(o i:Nat)(ob ob0:Ob)(h:hp[o]?=some ob0):(hp.set o ob)[i]?=if i=o then some ob else hp[i]?:=by
 rw[List.getElem?_set];have Aq:o<hp.length:=by
  rcases q_jo o hp.length with h1|h1
  ·exact h1
  ·rw[q_jd h1] at h;cases h
 by_cases hi:i=o
 ·subst hi;simp[Aq]
 ·rw[if_neg (fun h=>hi h.symm),if_neg hi]
def Ag7{U:Nat->Prop}{w0:World}{own:Nat->Prop}{E:Env}{w:World}{hp hp':List Ob}{v:Value}{s s':SV}(hW:W w0 own E w)(hu:∀o,U o->E.H o=hp[o]?)
  (hc:Dn hp s=some (s',hp')) (hr:RelV E v s) (hi:∀o∈Dh s,U o):hp'.length=hp.length/\∃E',Step U w0 own E E' w hp'/\Rep E'.m v s'/\E'.β=E.β/\E'.t=E.t:=by
 have plain:Dn hp s=some (s,hp)->s.closed=true\/(∃l,s=.tup l)->hp'.length=hp.length/\∃E',Step U w0 own E E' w hp'/\Rep E'.m v s'/\E'.β=E.β/\E'.t=E.t:=by
  intro h1 h2;rw[h1] at hc;cases hc;refine⟨rfl,E,Step.refl hW hu,?_,rfl,rfl⟩;rcases h2 with h2|⟨l,rfl⟩
  ·exact hr.closed_rep h2
  ·exact hr.tup_rep
 cases s with
 |osl o g off len=>
  have hU:=hi o (by simp[Dh]);cases hr with
  |rep _ _ hr=>cases hr
  |osl _ _ _ _ A n cap ob ho hg hnl Yc=>
   have Jw:=fun (h:ob.gen=g)=>And.intro hnl.1 (And.intro hnl.2.1 (Yc h))
   simp only[Dn] at hc;rw[<-hu o hU,ho] at hc;simp only at hc;split at hc;rotate_left
   ·cases hc
   rename_i hbg;obtain⟨hb,Gk⟩:=hbg;cases hc;obtain⟨rfl,In,Ew,hA⟩:=Jw Gk;obtain⟨E',a1,a2,a3,a4,a5,a6,a7⟩:=hW.freeze ho;have Ja:hp[o]?=some ob:=by rw[<-hu o hU];exact ho
   refine⟨by simp[fz],E',⟨a1,a2,fun i Gl=>?_,fun i Gl=>?_⟩,A1n hW ho (.inl hb) In Ew hA a1.m a6,a4,a5⟩
   ·rw[a3,fz,Sd hp o i _ ob Ja]
    by_cases Ej:i=o
    ·simp[Ej]
    ·simp only[if_neg Ej];exact hu i Gl
   ·rw[a3];have:i≠o:=by rintro rfl;exact Gl hU
    simp only[if_neg this]
 |J=>simp[Dn] at hc
 |undef=>simp[Dn] at hc
 |ref o g e c=>simp[Dn] at hc
 |tup l=>simp[Dn] at hc
 |agg b l=>
  cases b with
  |false=>simp[Dn] at hc
  |true=>exact plain rfl (.inl rfl)
 |bool b=>exact plain rfl (.inl rfl)
 |int k n=>exact plain rfl (.inl rfl)
 |float k b=>exact plain rfl (.inl rfl)
 |str s=>exact plain rfl (.inl rfl)
 |nilp=>exact plain rfl (.inl rfl)
 |nils=>exact plain rfl (.inl rfl)
 |fn f=>exact plain rfl (.inl rfl)
 |gp b c=>exact plain rfl (.inl rfl)
 |mp r=>exact plain rfl (.inl rfl)
 |nilm=>exact plain rfl (.inl rfl)
 |ife t=>exact plain rfl (.inl rfl)
 |lit A n cap=>exact plain rfl (.inl rfl)
 |dref z l c=>exact plain rfl (.inl rfl)
 |dsl z l=>exact plain rfl (.inl rfl)
def Ag9{U:Nat->Prop}{w0:World}{own:Nat->Prop}{w:World}:∀{l l':List SV} {E:Env} {hp hp':List Ob} {vs:List Value},W w0 own E w->(∀o,U o->E.H o=hp[o]?) ->
  Jg hp l=some (l',hp')->vs.length=l.length->(∀(j:Nat) (v:Value) (x:SV),vs[j]?=some v->l[j]?=some x->RelV E v x)->(∀o∈l.flatMap Dh,U o) ->
  hp'.length=hp.length/\l'.length=l.length/\∃E',Step U w0 own E E' w hp'/\(∀(j:Nat) (v:Value) (x:SV),vs[j]?=some v->l'[j]?=some x->Rep E'.m v x)/\E'.β=E.β/\E'.t=E.t:=by
 intro l
 induction l with
 |nil=>
  intro l' E hp hp' vs hW hu hc hl hr hi;simp only[Jg,q_b,Prod.mk.injEq] at hc;obtain⟨rfl,rfl⟩:=hc;exact⟨rfl,rfl,E,Step.refl hW hu,by simp,rfl,rfl⟩
 |cons s l ih=>
  intro l' E hp hp' vs hW hu hc hl hr hi;cases vs with
  |nil=>simp at hl
  |cons v vs=>
   simp only[Jg] at hc;split at hc;rotate_left
   ·cases hc
   rename_i c' h1 Iz;split at hc;rotate_left
   ·cases hc
   rename_i r' h2 Ij;cases hc;obtain⟨e1,E1,st1,rep1,b1,t1⟩:=Ag7 hW hu Iz (hr 0 v s rfl rfl) (fun o ho=>hi o (by simp[ho]));obtain⟨e2,e3,E2,st2,rep2,b2,t2⟩:=ih st1.wo st1.on Ij (by simpa using hl) (fun j v' x hv hx=>(hr (j+1) v' x (by simpa using hv) (by simpa using hx)).mono st1.ext) (fun o ho=>hi o (by
    simp only[List.flatMap_cons,q_ke];exact .inr ho))
   refine⟨e2.trans e1,by simp[e3],E2,st1.trans st2,fun j v' x hv hx=>?_,b2.trans b1,t2.trans t1⟩;cases j with
   |zero=>
    simp only[q_jv,q_b] at hv hx;subst hv;subst hx;exact rep1.mono st2.ext.m
   |succ j=>exact rep2 j v' x (by simpa using hv) (by simpa using hx)
def Apm{hp hp':List Ob}{s s':SV}{o:Nat}{ob:Ob}(hc:Dn hp s=some (s',hp'))(ho:hp[o]?=some ob)(hb:ob.box=true):hp'[o]?=some ob:=by
 cases s with
 |osl o1 g off len=>
  simp only[Dn] at hc;split at hc;rotate_left
  ·cases hc
  rename_i ob1 h1;split at hc;rotate_left
  ·cases hc
  rename_i h2;cases hc;rw[fz,Sd hp o1 o _ ob1 h1];have:o≠o1:=by
   rintro rfl;rw[h1] at ho;cases ho;rw[hb] at h2;cases h2.1
  rw[if_neg this];exact ho
 |agg b l=>cases b<;>simp[Dn] at hc;rw[<-hc.2];exact ho
 |J=>simp[Dn] at hc
 |undef=>simp[Dn] at hc
 |ref _ _ _ _=>simp[Dn] at hc
 |tup _=>simp[Dn] at hc
 |_=>simp only[Dn,q_b,Prod.mk.injEq] at hc;rw[<-hc.2];exact ho
def Apo{l l':List SV}:∀{hp hp':List Ob} {o:Nat} {ob:Ob},Jg hp l=some (l',hp')->hp[o]?=some ob->ob.box=true->hp'[o]?=some ob:=by
 induction l generalizing l' with
 |nil=>intro hp hp' o ob hc ho hb;simp only[Jg,q_b,Prod.mk.injEq] at hc;rw[<-hc.2];exact ho
 |cons s l ih=>
  intro hp hp' o ob hc ho hb;simp only[Jg] at hc;split at hc;rotate_left
  ·cases hc
  rename_i c' h1 Iz;split at hc;rotate_left
  ·cases hc
  rename_i r' h2 Ij;cases hc;exact ih Ij (Apm Iz ho hb) hb
def getD0{l:GV}{r:List SV}(h:l=[r]):l.getD 0 []=r:=by subst h;rfl
def Xb{U:Nat->Prop}{w0:World}{own:Nat->Prop}{E:Env}{w:World}{hp hp':List Ob}{v:Value}{s s':SV}(hW:W w0 own E w)(hu:∀o,U o->E.H o=hp[o]?)
  (hc:Dl hp s=some (s',hp')) (hr:RelV E v s) (hi:∀o∈Ec hp s,U o):hp'.length=hp.length/\∃E',Step U w0 own E E' w hp'/\Rep E'.m v s'/\E'.β=E.β/\E'.t=E.t:=by
 have plain:Dl hp s=Dn hp s->Ec hp s=Dh s->hp'.length=hp.length/\∃E',Step U w0 own E E' w hp'/\Rep E'.m v s'/\E'.β=E.β/\E'.t=E.t:=by
  intro h1 h2;rw[h1] at hc;exact Ag7 hW hu hc hr (by rw[<-h2];exact hi)
 cases s with
 |osl o g off len=>exact plain rfl rfl
 |J=>exact plain rfl rfl
 |undef=>exact plain rfl rfl
 |ref o g e c=>
  have hU:=hi o (by simp[Ec]);cases hr with
  |rep _ _ hr=>cases hr
  |ref _ _ _ _ pb pj ob ho hg Jw=>
   have Ja:hp[o]?=some ob:=by rw[<-hu o hU];exact ho
   simp only[Dl,Ja] at hc;split at hc;rotate_left
   ·cases hc
   rename_i hbg;obtain⟨hb,Gk,he⟩:=hbg;subst he;obtain⟨rfl,rfl⟩:=Jw Gk;have hk:=hW.obs o ob ho;have h1:=hk.box hb;obtain⟨r,Gc⟩:∃r,ob.els=[r]:=by
    match hq:ob.els,h1 with
    |[r],_=>exact⟨r,rfl⟩
   have hrl:r.length=ob.sz:=hk.rows r (by simp[Gc]);have Mr:ob.els.flatten=r:=by simp[Gc]
   by_cases hcl:ob.cl=true
   ·rw[if_pos hcl] at hc;cases hc;obtain⟨E',a1,a2,a3,a4,a5,a6,a7⟩:=hW.freeze ho;refine⟨by simp[fz],E',⟨a1,a2,fun i Gl=>?_,fun i Gl=>?_⟩,?_,a4,a5⟩
    ·rw[a3,fz,Sd hp o i _ ob Ja]
     by_cases Ej:i=o
     ·simp[Ej]
     ·simp only[if_neg Ej];exact hu i Gl
    ·rw[a3];have:i≠o:=by rintro rfl;exact Gl hU
     simp only[if_neg this]
    ·rw[getD0 Gc];simp only[Nat.zero_mul,q_jg];rcases Nat.eq_zero_or_pos (E.t o) with ht|ht
     ·have hf:=hk.fit;have Qf:r=[]:=List.eq_nil_of_length_eq_zero (by rw[Gc] at hf;simp at hf;omega);have:=Rep.dref (m:=E'.m) ob.sz r c (E.β o) 0 [] (by simp) (by simp[Qf] at hrl |-;omega) hrl (by simp) (fun e=>by rw[Qf] at e;cases e) (by simp);simpa using this
     ·obtain⟨cc,ee,hl⟩:=hk.live ht;have hcs:=hl.size;have hf:=hk.fit;have Cf:ob.sz<=cc.size:=by rw[Gc] at hf;simp at hf;omega
      have:=Rep.dref (m:=E'.m) ob.sz r c (E.β o) 0 (cc.toList.take ob.sz) (Wi hl.one (fun v hv=>List.mem_of_mem_take hv)) (by simp;omega) hrl (fun j x hx=>?_) (fun _=>a1.m.p _ hl.pl) (fun j x y hx hy=>?_)
      ·simpa using this
      ·rw[q_jx] at hx;split at hx
       ·rename_i hj;rw[q_jg];refine a6 j x ?_ ?_
        ·rw[Mr,q_f (by omega)];simp
        ·rw[Pm hl.blk];simpa using hx
       ·cases hx
      ·rw[q_jx] at hx;split at hx
       ·exact (hl.clo (.inr hcl) j x y (by simpa using hx) (by rw[Mr];exact hy)).mono a1.m
       ·cases hx
   ·rw[if_neg hcl] at hc;split at hc;rotate_left
    ·cases hc
    rename_i l' h2 Ij;cases hc;rw[getD0 Gc] at Ij;have Db:∀i∈r.flatMap Dh,U i:=fun i Dk=>hi i (by simp only[Ec,Ja,if_neg hcl,getD0 Gc,q_kb];exact .inr Dk)
    rcases Nat.eq_zero_or_pos (E.t o) with ht|ht
    ·have hf:=hk.fit;have Qf:r=[]:=List.eq_nil_of_length_eq_zero (by rw[Gc] at hf;simp at hf;omega);subst Qf;simp only[Jg,q_b,Prod.mk.injEq] at Ij;obtain⟨rfl,rfl⟩:=Ij;have hz:ob.sz=0:=by simpa using hrl.symm
     obtain⟨E',a1,a2,a3,a4,a5,a6⟩:=hW.put0 (ob':={ ob with els:=[[]],frz:=1,cl:=true }) ho ht rfl (q_ja _) (by simp[Gc]) (by simp[hz]) (by simp) (by simp[hz]) (by simp) (by simp);refine⟨by simp,E',⟨a1,a2,fun i Gl=>?_,fun i Gl=>?_⟩,?_,a4,a5⟩
     ·rw[a3,Sd hp o i _ ob Ja]
      by_cases Ej:i=o
      ·simp[Ej]
      ·simp only[if_neg Ej];exact hu i Gl
     ·rw[a3];have:i≠o:=by rintro rfl;exact Gl hU
      simp only[if_neg this]
     ·simp only[Nat.zero_mul,q_jg];have:=Rep.dref (m:=E'.m) ob.sz [] c (E.β o) 0 [] (by simp) (by simp[hz]) (by simp[hz]) (by simp) (fun e=>by cases e) (by simp);simpa using this
    ·obtain⟨cc,ee,hl⟩:=hk.live ht;have hcs:=hl.size;have hf:=hk.fit;have Cf:ob.sz<=cc.size:=by rw[Gc] at hf;simp at hf;omega
     obtain⟨q1,q2,E1,st1,rep1,b1,t1⟩:=Ag9 (vs:=cc.toList.take ob.sz) hW hu Ij (by simp;omega) (fun j x y hx hy=>by
      rw[q_jx] at hx;split at hx
      ·exact hl.rel j x y (by simpa using hx) (by rw[Mr];exact hy)
      ·cases hx) Db
     have Vh:E1.H o=some ob:=by rw[st1.on o hU];exact Apo Ij Ja hb
     have hl1:Ab9 w0.heap.size own E1 w o ob cc ee:=by
      obtain⟨c1,e1,hl1⟩:=(st1.wo.obs o ob Vh).live (by rw[t1];exact ht);have hb:=hl1.blk;rw[b1,hl.blk] at hb;injection hb with hb
      injection hb with hb1 Dy
      subst hb1;subst Dy;exact hl1
     have Ajr:l'.length=ob.sz:=by rw[q2];exact hrl
     have Cu:∀(k:Nat) (v:Value) (x:SV),cc[k]?=some v->[l'].flatten[k]?=some x->Rep E1.m v x:=fun k v x hv hx=>by
      have Dd:l'[k]?=some x:=by simpa using hx
      have hk':k<l'.length:=by
       rcases q_jo k l'.length with h|h
       ·exact h
       ·rw[q_jd h] at Dd;cases Dd
      refine rep1 k v x ?_ Dd;rw[q_jx,if_pos (by omega)];simpa using hv
     obtain⟨E',a1,a2,a3,a4,a5,a6,a7⟩:=st1.wo.put (w':=w) (ob':={ ob with els:=[l'],frz:=1,cl:=true }) Vh hl1 rfl rfl rfl rfl (fun _ _=>rfl) hl1.blk rfl rfl (q_ja _) (by simp[Gc])
      (by have:=hk.frz;rw[Gc] at this;simpa using this) (fun _ _=>rfl) (by simp[Ajr]) (by simp) (by simpa using Cf) (by simp) (by simp) hl1.one (fun k v x hv hx=>.rep v x (Cu k v x hv hx)) (fun _=>Cu)
     have ho2:h2[o]?=some ob:=by rw[<-st1.on o hU];exact Vh
     refine⟨by simp[q1],E',⟨st1.ext.trans a1,a2,fun i Gl=>?_,fun i Gl=>?_⟩,?_,a4.trans b1,a5.trans t1⟩
     ·rw[a3,Sd h2 o i _ ob ho2]
      by_cases Ej:i=o
      ·simp[Ej]
      ·simp only[if_neg Ej];exact st1.on i Gl
     ·rw[a3];have:i≠o:=by rintro rfl;exact Gl hU
      simp only[if_neg this];exact st1.off i Gl
     ·simp only[Nat.zero_mul,q_jg];have:=Rep.dref (m:=E'.m) ob.sz l' c (E.β o) 0 (cc.toList.take ob.sz) (Wi hl1.one (fun v hv=>List.mem_of_mem_take hv)) (by simp;omega) Ajr (fun j x hx=>?_) (fun _=>by have hq:=a1.m.p _ hl1.pl;rwa [b1] at hq) (fun j x y hx hy=>?_)
      ·simpa using this
      ·rw[q_jx] at hx;split at hx
       ·rename_i hj;rw[q_jg,<-b1,a6 j (by simpa using hj)];simpa using hx
       ·cases hx
      ·exact (rep1 j x y hx hy).mono a1.m
 |tup l=>exact plain rfl rfl
 |agg b l=>
  cases b with
  |true=>exact plain rfl rfl
  |false=>
   simp only[Dl] at hc;split at hc;rotate_left
   ·cases hc
   rename_i l' h hcs;cases hc;cases hr with
   |rep _ _ hr=>cases hr
   |agg vs _ ho hl Er=>
    obtain⟨a1,a2,E',st,rep,b,t⟩:=Ag9 hW hu hcs hl Er hi;exact⟨a1,E',st,Rep.agg vs l' ho (by omega) rep,b,t⟩
 |bool b=>exact plain rfl rfl
 |int k n=>exact plain rfl rfl
 |float k b=>exact plain rfl rfl
 |str s=>exact plain rfl rfl
 |nilp=>exact plain rfl rfl
 |nils=>exact plain rfl rfl
 |fn f=>exact plain rfl rfl
 |gp b c=>exact plain rfl rfl
 |mp r=>exact plain rfl rfl
 |nilm=>exact plain rfl rfl
 |ife t=>exact plain rfl rfl
 |lit A n cap=>exact plain rfl rfl
 |dref z l c=>exact plain rfl rfl
 |dsl z l=>exact plain rfl rfl
def A1j{m:Mem}{v:Value}{s:SV}(h:(match v with
   |.bool b=>some (SV.bool b)|.int k n=>some (.int k n)|.float k b=>some (.float k b)|.string s=>some (.str s)
   |.pointer none=>some .nilp|.slice none 0 0=>some .nils|.map none=>some .nilm|_=>none)=some s):Rep m v s/\v.oneCell'=true:=by
 split at h<;>first|(cases h;done)|skip
 all_goals (cases h)
 ·exact⟨.bool _,rfl⟩
 ·exact⟨.int _ _,rfl⟩
 ·exact⟨.float _ _,rfl⟩
 ·exact⟨.str _,rfl⟩
 ·exact⟨.nilp,rfl⟩
 ·exact⟨.nils,rfl⟩
 ·exact⟨.nilm,rfl⟩
def Ay2{α β:Type}{f:α->Option β}{R:α->β->Prop}(hf:∀a b,f a=some b->R a b):∀{l:List α} {l':List β},l.mapM f=some l'->l'.length=l.length/\∀(j:Nat) a b,l[j]?=some a->l'[j]?=some b->R a b:=by
 intro l
 induction l with
 |nil=>intro l' h;simp at h;subst h;exact⟨rfl,by simp⟩
 |cons a l ih=>
  intro l' h;simp only[List.mapM_cons,q_c,q_a,q_d,q_b] at h;obtain⟨b,hb,r,hr,rfl⟩:=h;obtain⟨h1,h2⟩:=ih hr;refine⟨by simp[h1],fun j a' b' ha Di=>?_⟩;cases j with
  |zero=>simp at ha Di;subst ha;subst Di;exact hf _ _ hb
  |succ j=>exact h2 j a' b' (by simpa using ha) (by simpa using Di)
def Lm{m:Mem}{v:Value}{s:SV}(h:Zq v=some s):Rep m v s/\s.closed=true/\s.ok=true:=by
 unfold Zq at h;split at h<;>first|(cases h;done)|skip
 ·cases h;exact⟨.bool _,rfl,rfl⟩
 ·cases h;exact⟨.int _ _,rfl,rfl⟩
 ·cases h;exact⟨.float _ _,rfl,rfl⟩
 ·cases h;exact⟨.str _,rfl,rfl⟩
 ·cases h;exact⟨.nilp,rfl,rfl⟩
 ·cases h;exact⟨.nils,rfl,rfl⟩
 ·cases h;exact⟨.nilm,rfl,rfl⟩
 ·rename_i cs;split at h
  ·rename_i l hl;cases h;obtain⟨h1,h2⟩:=Ay2 (R:=fun v s=>Rep m v s/\v.oneCell'=true) (fun a b Xv=>A1j Xv) hl;have:=Rep.agg (m:=m) cs.toList l (fun v hv=>?_) h1.symm (fun j v x hv hx=>(h2 j v x hv hx).1)
   ·exact⟨by simpa using this,rfl,rfl⟩
   ·obtain⟨j,hj⟩:=q_jw hv;have Rp:j<l.length:=by
     rw[h1];rcases q_jo j cs.toList.length with h|h
     ·exact h
     ·rw[q_jd h] at hj;cases hj
    exact (h2 j v _ hj (q_f Rp)).2
  ·cases h
def Ld{E:Env}{v:Value}{s:SV}(h:RelV E v s)(hok:s.ok=true):∃vs:List Value,v.cells=vs.toArray/\vs.length=(cellsOf s).length/\(∀u∈vs,u.oneCell'=true) /\
  (∀(j:Nat) (u:Value) (x:SV),vs[j]?=some u->(cellsOf s)[j]?=some x->RelV E u x)/\(s.closed=true->∀(j:Nat) (u:Value) (x:SV),vs[j]?=some u->(cellsOf s)[j]?=some x->Rep E.m u x):=by
 have one:v.cells=#[v]->v.oneCell'=true->cellsOf s=[s]->∃vs:List Value,v.cells=vs.toArray/\vs.length=(cellsOf s).length/\(∀u∈vs,u.oneCell'=true) /\
  (∀(j:Nat) (u:Value) (x:SV),vs[j]?=some u->(cellsOf s)[j]?=some x->RelV E u x)/\(s.closed=true->∀(j:Nat) (u:Value) (x:SV),vs[j]?=some u->(cellsOf s)[j]?=some x->Rep E.m u x):=by
  intro h1 h2 h3;refine⟨[v],h1,by simp[h3],by simpa using h2,fun j u x hu hx=>?_,fun hc j u x hu hx=>?_⟩
  ·rw[h3] at hx;cases j<;>simp at hu hx;subst hu;subst hx;exact h
  ·rw[h3] at hx;cases j<;>simp at hu hx;subst hu;subst hx;exact h.closed_rep hc
 cases h with
 |J=>simp[SV.ok] at hok
 |undef=>simp[SV.ok] at hok
 |rep _ _ hr=>
  cases hr with
  |agg vs l h0 h1 h2=>exact⟨vs,rfl,h1,h0,fun j u x hu hx=>.rep u x (h2 j u x hu hx),fun _=>h2⟩
  |tup vs l h1 h2=>simp[SV.ok] at hok
  |bool b=>exact one rfl rfl rfl
  |int k n=>exact one rfl rfl rfl
  |float k b=>exact one rfl rfl rfl
  |str s=>exact one rfl rfl rfl
  |nilp=>exact one rfl rfl rfl
  |nils=>exact one rfl rfl rfl
  |fn f=>exact one rfl rfl rfl
  |gp=>exact one rfl rfl rfl
  |mp=>exact one rfl rfl rfl
  |nilm=>exact one rfl rfl rfl
  |ife t=>exact one rfl rfl rfl
  |lit=>exact one rfl rfl rfl
  |dref=>exact one rfl rfl rfl
  |dsl0=>exact one rfl rfl rfl
  |dsl=>exact one rfl rfl rfl
 |ref o g e c b j ob h1 h2 h3=>exact one rfl rfl rfl
 |osl o g off len A n cap ob h1 h2 hnl h3=>exact one rfl rfl rfl
 |agg vs l h0 h1 h2=>exact⟨vs,rfl,h1,h0,h2,fun hc=>by simp[SV.closed] at hc⟩
section
variable{P:Program}{U:Nat->Prop}{w0:World}{own:Nat->Prop}{E:Env}{w:World}{s:St}{a:Act}
def OpRes(P:Program)(sem:Sem Next)(U:Nat->Prop)(w0:World)(own:Nat->Prop)(E:Env)(w:World)(eff:Eff):Prop:=
 ∃v w' E',(sem.run P w=.ok (.value v) w'\/(sem.run P w=.ok .skip w'/\v=undef))/\RelV E' v eff.val/\Step U w0 own E E' w' eff.hp/\w.heap.size<=w'.heap.size/\eff.as
def OpRes.pure_{sem:Sem Next}{v:Value}{eff:Eff}(hW:W w0 own E w)(hu:∀o,U o->E.H o=s.hp[o]?)(hr:sem.run P w=.ok (.value v) w)(hv:RelV E v eff.val)(hh:eff.hp=s.hp)(has:eff.as):OpRes P sem U w0 own E w eff:=
 ⟨v,w,E,.inl hr,hv,by rw[hh];exact Step.refl hW hu,q_ja _,has⟩
def Aey{t:TypeId}{d:TypeDesc}(h:P.underlying t=some d):∃i,P.info? t=some i:=by
 unfold Program.underlying at h;cases hi:P.info? t with
 |none=>simp[hi] at h
 |some i=>exact⟨i,rfl⟩
def Aci{t:TypeId}{i:TypeInfo}(h:P.info? t=some i):P.cellsOf t=i.size:=by simp[Program.cellsOf,h]
def Abi{t:TypeId}{b:Bool}(h:Hb P t=some b)(w:World):(isAgg t).run P w=.ok b w:=by
 unfold Hb at h;unfold isAgg;split at h
 ·rename_i fs hu;cases h;simp[run_underlying hu]
 ·rename_i n e hu;cases h;simp[run_underlying hu]
 ·rename_i d h1 h2 hu;cases h;simp only[Sem.run_bind,run_underlying hu,Result.andThen_ok];cases d<;>first|rfl|(exact absurd rfl (h1 _))|(exact absurd rfl (h2 _ _))
 ·cases h
def Aax{t:TypeId}{b:Bool}(h:Hb P t=some b):∃i,P.info? t=some i:=by
 unfold Hb at h;split at h
 ·rename_i fs hu;exact Aey hu
 ·rename_i n e hu;exact Aey hu
 ·rename_i d _ _ hu;exact Aey hu
 ·cases h
def Mk(b o n:Nat):(⟨b,o,none⟩:Addr).add n=⟨b,o+n,none⟩:=by
 unfold Addr.add;split<;>simp_all
def Afv{t:TypeId}{ag:Bool}{b o:Nat}{vs:List Value}(h:Hb P t=some ag)(hn:vs.length=P.cellsOf t)(h1:ag=true\/P.cellsOf t=1)(hc:∀j v,vs[j]?=some v->w.cell? ⟨b,o+j,none⟩=some v) :
  (Instr.loadAt t (.pointer (some ⟨b,o,none⟩))).run P w=.ok (if ag then .agg vs.toArray else vs.getD 0 undef) w:=by
 obtain⟨i,hi⟩:=Aax h;have Cf:=run_sizeOf (P:=P) w hi;cases ag with
 |true=>
  have hl:=run_loadCells_list (P:=P) w ⟨b,o,none⟩ vs (fun j v hv=>by rw[Mk];exact hc j v hv);rw[hn] at hl;simp[Instr.loadAt,Instr.sureAddr,loadVar,Abi h,Cf,hl]
 |false=>
  have h1':P.cellsOf t=1:=by simpa using h1
  rw[h1'] at hn
  match vs,hn with
  |[v],_=>
   have:=hc 0 v rfl;simp[Instr.loadAt,Instr.sureAddr,loadVar,Abi h,q_jp] at this |-;simp[this]
def getElem?_drop_some{α:Type}{l:List α}{c j:Nat}{x:α}(h:(l.drop c)[j]?=some x):l[c+j]?=some x:=by rwa [q_kk] at h
def A1h(h:W w0 own E w){o e c n:Nat}{ob:Ob}(ho:E.H o=some ob)(he:e<ob.els.length)(Ik:c+n<=ob.sz) :
  ∃vs:List Value,vs.length=n/\(∀j v,vs[j]?=some v->w.cell? ⟨E.β o,e*ob.sz+c+j,none⟩=some v)/\(∀v∈vs,v.oneCell'=true) /\
   (∀(j:Nat) (v:Value) (x:SV),vs[j]?=some v->((ob.els.getD e []).drop c)[j]?=some x->RelV E v x) /\
   ((!ob.box || ob.cl)=true->∀(j:Nat) (v:Value) (x:SV),vs[j]?=some v->((ob.els.getD e []).drop c)[j]?=some x->Rep E.m v x):=by
 have hk:=h.obs o ob ho;rcases Nat.eq_zero_or_pos n with hn|hn
 ·subst hn;exact⟨[],rfl,by simp,by simp,by simp,by simp⟩
 ·have Dw:0<E.t o:=by
   have hf:=hk.fit;have:(e+1)*ob.sz<=ob.els.length*ob.sz:=q_jy _ he;rw[Nat.succ_mul] at this;omega
  obtain⟨cc,ee,hl⟩:=hk.live Dw;have hcs:=hl.size;have hf:=hk.fit;have h1:(e+1)*ob.sz<=ob.els.length*ob.sz:=q_jy _ he;rw[Nat.succ_mul] at h1;have Gj:∀j x,((ob.els.getD e []).drop c)[j]?=some x->c+j<ob.sz/\ob.els.flatten[e*ob.sz+(c+j)]?=some x:=by
   intro j x hx;have Dd:=getElem?_drop_some hx;have Mq:ob.els[e]?=some (ob.els.getD e []):=by simp[List.getD,q_f he]
   have hrl:=hk.rows _ (q_jb Mq);have hj:c+j<ob.sz:=by
    rw[<-hrl];rcases q_jo (c+j) (ob.els.getD e []).length with h|h
    ·exact h
    ·rw[q_jd h] at Dd;cases Dd
   refine⟨hj,?_⟩;rw[Pr hk.rows e (c+j) hj,Mq];exact Dd
  refine⟨(cc.toList.drop (e*ob.sz+c)).take n,by simp;omega,fun j v hv=>?_,Wi hl.one (fun v hv=>List.mem_of_mem_drop (List.mem_of_mem_take hv)),fun j v x hv hx=>?_,fun hb j v x hv hx=>?_⟩
  ·rw[q_jx] at hv;split at hv
   ·have:=getElem?_drop_some hv;rw[Pm hl.blk];simpa using this
   ·cases hv
  ·rw[q_jx] at hv;split at hv
   ·have:=getElem?_drop_some hv;obtain⟨_,Dd⟩:=Gj j x hx;refine hl.rel (e*ob.sz+(c+j)) v x ?_ Dd;rw[<-q_ks];simpa using this
   ·cases hv
  ·rw[q_jx] at hv;split at hv
   ·have:=getElem?_drop_some hv;obtain⟨_,Dd⟩:=Gj j x hx;refine hl.clo ?_ (e*ob.sz+(c+j)) v x ?_ Dd
    ·simpa using hb
    ·rw[<-q_ks];simpa using this
   ·cases hv
def Acy{cl ag:Bool}{sz n c:Nat}{cells:List SV}{vs:List Value}(hl:cells.length=sz)(Ik:c+n<=sz)(hn:vs.length=n)(h1:ag=true\/n=1)(Fi:∀v∈vs,v.oneCell'=true)
  (hr:∀(j:Nat) (v:Value) (x:SV),vs[j]?=some v->(cells.drop c)[j]?=some x->RelV E v x) (hc:cl=true->∀(j:Nat) (v:Value) (x:SV),vs[j]?=some v->(cells.drop c)[j]?=some x->Rep E.m v x) :
  RelV E (if ag then .agg vs.toArray else vs.getD 0 undef) (cut cl sz ag n c cells):=by
 unfold cut;cases ag with
 |false=>
  have Jl:n=1:=by simpa using h1
  simp only[q_kx,if_false];have hx:(cells.drop c)[0]?=some (cells.getD c .undef):=by
   rw[q_kk,q_jp,List.getD,q_f (by omega)];rfl
  match vs,hn with
  |[v],_=>exact hr 0 v _ rfl hx
  |[],h=>simp at h;omega
  |_::_::_,h=>simp at h;omega
 |true=>
  simp only[if_true];have fin:∀l:List SV,l.length=n->(∀(j:Nat) (x:SV),l[j]?=some x->(cells.drop c)[j]?=some x)->RelV E (.agg vs.toArray) (.agg cl l):=by
   intro l hl' hx;cases cl with
   |true=>exact .rep _ _ (.agg vs l Fi (by omega) (fun j v x hv Dd=>hc rfl j v x hv (hx j x Dd)))
   |false=>exact .agg vs l Fi (by omega) (fun j v x hv Dd=>hr j v x hv (hx j x Dd))
  split
  ·rename_i he;have Sw:c=0:=by omega
   subst Sw;exact fin cells (by omega) (fun j x hx=>by simpa using hx)
  ·refine fin _ (by simp;omega) (fun j x hx=>?_);rw[q_jx] at hx;split at hx
   ·exact hx
   ·cases hx
def Ala{t:TypeId}{ag:Bool}{v:Value}{x:SV}{eff:Eff}(hW:W w0 own E w)(hu:∀o,U o->E.H o=s.hp[o]?)(Gh:Hb P t=some ag)(h1:ag=true\/P.cellsOf t=1)
  (he:Kg s.hp ag (P.cellsOf t) x=some eff) (hob:eff.ob) (hx:RelV E v x) (hg:Ka x=false) (hi:∀o∈Dh x,U o):∃u,(Instr.loadAt t v).run P w=.ok u w/\RelV E u eff.val/\eff.hp=s.hp/\eff.as:=by
 cases x with
 |ref o g e c=>
  have hU:=hi o (by simp[Dh]);cases hx with
  |rep _ _ hr=>cases hr
  |ref _ _ _ _ pb pj ob ho hg Jw=>
   simp only[Kg] at he;rw[<-hu o hU,ho] at he;simp only at he;split at he;rotate_left
   ·cases he
   rename_i Gk;cases he;obtain⟨rfl,rfl⟩:=Jw Gk;obtain⟨Aq,Ik⟩:=hob;obtain⟨vs,a1,a2,a3,a4,a5⟩:=A1h hW ho Aq Ik;have hrl:=(hW.obs o ob ho).rows _ (q_jb (show ob.els[e]?=some (ob.els.getD e []) by simp[List.getD,q_f Aq]));exact⟨_,Afv Gh a1 h1 a2,Acy hrl Ik a1 h1 a3 a4 a5,rfl,trivial⟩
 |dref sz l c=>
  have hr:=hx.closed_rep rfl;simp only[Kg] at he;cases he;cases hr with
  |dref _ _ _ b off vs h0 h2 h3 h4 _ h5=>
   have Ik:c+P.cellsOf t<=sz:=hob;have Jo:∀(j:Nat) (v:Value),((vs.drop c).take (P.cellsOf t))[j]?=some v->vs[c+j]?=some v:=by
    intro j v hv;rw[q_jx] at hv;split at hv
    ·exact getElem?_drop_some hv
    ·cases hv
   refine⟨_,Afv (vs:=(vs.drop c).take (P.cellsOf t)) Gh (by simp;omega) h1 (fun j v hv=>?_),Acy h3 Ik (by simp;omega) h1 (fun v hv=>h0 v (List.mem_of_mem_drop (List.mem_of_mem_take hv)))
    (fun j v x hv hx=>.rep v x (h5 _ v x (Jo j v hv) (getElem?_drop_some hx))) (fun _ j v x hv hx=>h5 _ v x (Jo j v hv) (getElem?_drop_some hx)),rfl,trivial⟩
   have:=hW.mem _ _ _ (h4 _ v (Jo j v hv));rw[show off+c+j=off+(c+j) by omega];exact this
 |gp=>cases hg
 |_=>simp[Kg] at he
end
section
variable{P:Program}{U:Nat->Prop}{w0:World}{own:Nat->Prop}{E:Env}{w:World}{s:St}{a:Act}
def Tz{α:Type}(l new:List α)(p:Nat)(hp:p+new.length<=l.length)(k:Nat):(l.take p++new++l.drop (p+new.length))[k]?=if p<=k/\k<p+new.length then new[k-p]? else l[k]?:=by
 by_cases h1:k<p
 ·rw[if_neg (by omega),q_ju,q_jf (by simp;omega),q_jx,if_pos h1]
 ·rw[q_ju,q_jj (by simp;omega)];have hm:(l.take p).length=p:=by simp;omega
  rw[hm]
  by_cases h2:k<p+new.length
  ·rw[if_pos (by omega),q_jf (by omega)]
  ·rw[if_neg (by omega),q_jj (by omega),q_kk];congr 1;omega
def Abl{sz n c:Nat}{cells new:List SV}(h1:cells.length=sz)(h2:c+n<=sz)(h3:new.length=n)(h4:0<n):Dm sz n c cells new=cells.take c++new++cells.drop (c+new.length):=by
 unfold Dm;split
 ·rename_i h;have:c=0:=by omega
  subst this;simp only[List.take_zero,q_km,q_jg];rw[List.drop_eq_nil_of_le (by omega),q_k]
 ·split
  ·rename_i h5 h6;subst h6
   match new,h3 with
   |[x],_=>
    simp only[List.getD_cons_zero,List.length_singleton];rw[List.set_eq_take_append_cons_drop,if_pos (by omega)];simp
  ·rw[h3]
def Af0{sz n c:Nat}{cells new:List SV}(h1:cells.length=sz)(h2:c+n<=sz)(h3:new.length=n)(h4:0<n):(Dm sz n c cells new).length=sz:=by
 rw[Abl h1 h2 h3 h4];simp only[q_jr,q_kg,q_kh];omega
def A2s{sz e:Nat}{els:GV}{row:List SV}(hr:∀r∈els,r.length=sz)(he:e<els.length):(els.set e row).flatten=els.flatten.take (e*sz)++row++els.flatten.drop (e*sz+sz):=by
 rw[List.set_eq_take_append_cons_drop,if_pos he,List.flatten_append,List.flatten_cons,v6 hr,u9 hr,Nat.succ_mul,q_ju]
def Asr{sz e c n:Nat}{els:GV}{new:List SV}(hr:∀r∈els,r.length=sz)(he:e<els.length)(h2:c+n<=sz)(h3:new.length=n)(h4:0<n)(k:Nat) :
  (els.set e (Dm sz n c (els.getD e []) new)).flatten[k]?=if e*sz+c<=k/\k<e*sz+c+n then new[k-(e*sz+c)]? else els.flatten[k]?:=by
 have Mq:els[e]?=some (els.getD e []):=by simp[List.getD,q_f he]
 have hrl:=hr _ (q_jb Mq);have Hp:=Iu hr;have Ma:(e+1)*sz<=els.length*sz:=q_jy _ he;rw[Nat.succ_mul] at Ma;have Cv:(Dm sz n c (els.getD e []) new).length=sz:=Af0 hrl h2 h3 h4;rw[A2s hr he];have hd:e*sz+sz=e*sz+(Dm sz n c (els.getD e []) new).length:=by omega
 rw[hd,Tz _ _ _ (by omega)]
 by_cases h5:e*sz<=k/\k<e*sz+sz
 ·rw[if_pos (by omega),Abl hrl h2 h3 h4,Tz _ _ _ (by omega)]
  by_cases h6:e*sz+c<=k/\k<e*sz+c+n
  ·rw[if_pos h6,if_pos (by omega),show k-(e*sz)-c=k-(e*sz+c) by omega]
  ·rw[if_neg h6,if_neg (by omega)];have:=Pr hr e (k-e*sz) (by omega);rw[Mq,show e*sz+(k-e*sz)=k by omega] at this;exact this.symm
 ·rw[if_neg (by omega),if_neg (by omega)]
def Amt(h:W w0 own E w){o e c:Nat}{ob ob':Ob}{vs:List Value}{new:List SV}(ho:E.H o=some ob)(he:e<ob.els.length)(Ik:c+vs.length<=ob.sz)(Dw:0<vs.length)(Bl:new.length=vs.length)(Sz:ob.frz<=e)
  (Fi:∀v∈vs,v.oneCell'=true) (Ti:ob'.els=ob.els.set e (Dm ob.sz vs.length c (ob.els.getD e []) new)) (hz:ob'.sz=ob.sz) (hg:ob'.gen=ob.gen) (hf:ob'.frz=ob.frz) (hb:ob'.box=ob.box)
  (Er:∀(j:Nat) (v:Value) (x:SV),vs[j]?=some v->new[j]?=some x->RelV E v x)
  (Sx:(ob'.box=false\/ob'.cl=true)->(∀(j:Nat) (v:Value) (x:SV),vs[j]?=some v->new[j]?=some x->Rep E.m v x)/\((ob.box=false\/ob.cl=true)\/(vs.length=ob.sz/\ob.els.length=1))) :
  ∃w' E',(storeCells ⟨E.β o,e*ob.sz+c,none⟩ vs).run P w=.ok () w'/\Ext E E'/\W w0 own E' w'/\E'.H=(fun i=>if i=o then some ob' else E.H i)/\w'.heap.size=w.heap.size:=by
 have hk:=h.obs o ob ho;have Ma:(e+1)*ob.sz<=ob.els.length*ob.sz:=q_jy _ he;rw[Nat.succ_mul] at Ma;have y8:=hk.fit;have ht:0<E.t o:=by omega
 obtain⟨cc,ee,hl⟩:=hk.live ht;have hcs:=hl.size;have Hr:=run_storeCells_at P (E.β o) (e*ob.sz+c) ee vs 0 cc w hl.blk (by omega) Fi;simp only[q_jp] at Hr;have Mo:∀k,(cc.toList.take (e*ob.sz+c)++vs++cc.toList.drop (e*ob.sz+c+vs.length)).toArray[k]?=if e*ob.sz+c<=k/\k<e*ob.sz+c+vs.length then vs[k-(e*ob.sz+c)]? else cc[k]?:=by
  intro k;have:=Tz cc.toList vs (e*ob.sz+c) (by simp;omega) k;simpa using this
 have Ajg:∀k,ob'.els.flatten[k]?=if e*ob.sz+c<=k/\k<e*ob.sz+c+vs.length then new[k-(e*ob.sz+c)]? else ob.els.flatten[k]?:=by
  intro k;rw[Ti];exact Asr hk.rows he Ik Bl Dw k
 have Mq:ob.els[e]?=some (ob.els.getD e []):=by simp[List.getD,q_f he]
 have hrl:=hk.rows _ (q_jb Mq);have hmulf:ob.frz*ob.sz<=e*ob.sz:=q_jy _ Sz;obtain⟨E',a1,a2,a3,a4,a5,a6,a7⟩:=h.put (w':=w.setRow (E.β o) (cc.toList.take (e*ob.sz+c)++vs++cc.toList.drop (e*ob.sz+c+vs.length)).toArray) (ob':=ob') ho hl rfl rfl rfl (by simp)
  (fun k hk=>setRow_other w (E.β o) k _ hk) (setRow_heap w (E.β o) cc _ ee _ hl.blk) (by simp;omega) hz (by omega) (by rw[Ti];simp) (by omega)
  (fun j hj=>by rw[Mo j,if_neg (by omega)])
  (fun r hr=>by
   rw[Ti] at hr;rw[hz];rcases List.mem_or_eq_of_mem_set hr with hr|hr
   ·exact hk.rows r hr
   ·rw[hr];exact Af0 hrl Ik Bl Dw)
  (by rw[hf,Ti];simpa using hk.frz) (by rw[Ti];simp;omega) (fun He=>by rw[Ti];simpa using hk.box (hb ▸ He)) (by rw[Ti];simpa using hk.bnd)
  (fun k v hv=>by
   rw[Mo k] at hv;split at hv
   ·exact Fi v (q_jb hv)
   ·exact hl.one k v hv)
  (fun k v x hv hx=>by
   rw[Mo k] at hv;rw[Ajg k] at hx;split at hv
   ·rename_i Dz;rw[if_pos Dz] at hx;exact Er _ v x hv hx
   ·rename_i Dz;rw[if_neg Dz] at hx;exact hl.rel k v x hv hx)
  (fun Rh k v x hv hx=>by
   obtain⟨b1,b2⟩:=Sx Rh;rw[Mo k] at hv;rw[Ajg k] at hx;split at hv
   ·rename_i Dz;rw[if_pos Dz] at hx;exact b1 _ v x hv hx
   ·rename_i Dz;rw[if_neg Dz] at hx;rcases b2 with b2|⟨b2,b3⟩
    ·exact hl.clo b2 k v x hv hx
    ·have Hp:=Iu hk.rows;have Jc:k<ob.els.flatten.length:=by
      rcases q_jo k ob.els.flatten.length with h'|h'
      ·exact h'
      ·rw[q_jd h'] at hx;cases hx
     rw[Hp,b3] at Jc;have Gb:e=0:=by omega
     have Sw:c=0:=by omega
     subst Gb;subst Sw;exfalso;apply Dz;omega)
 exact⟨_,E',Hr,a1,a2,a3,by simp⟩
def Afw{t:TypeId}{b o:Nat}{v:Value}{vs:List Value}{i:TypeInfo}{w':World}(hi:P.info? t=some i)(hv:v.cells=vs.toArray)(hn:vs.length=P.cellsOf t)(hr:(storeCells ⟨b,o,none⟩ vs).run P w=.ok () w') :
  (Instr.storeAt t (.pointer (some ⟨b,o,none⟩)) v).run P w=.ok () w':=by
 have Cf:=run_sizeOf (P:=P) w hi;simp[Instr.storeAt,Instr.sureAddr,storeVar,Cf,hv,hn,hr]
def A3c{t:TypeId}{ag:Bool}{av xv:Value}{ax x:SV}{eff:Eff}(hW:W w0 own E w)(hu:∀o,U o->E.H o=s.hp[o]?)(Gh:Hb P t=some ag)(Dw:0<P.cellsOf t)
  (he:Qv s.hp (P.cellsOf t) ax x=some eff) (hob:eff.ob) (Bb:RelV E av ax) (hx:RelV E xv x) (hgp:Ka ax=false) (hi:∀o∈Dh ax,U o) (Lx:∀o∈Pi s.hp ax x,U o) :
  ∃w' E',(Instr.storeAt t av xv).run P w=.ok () w'/\Step U w0 own E E' w' eff.hp/\w.heap.size<=w'.heap.size/\eff.val=.undef/\eff.as:=by
 obtain⟨inf,hinf⟩:=Aax Gh;cases ax with
 |ref o g e c=>
  have hU:=hi o (by simp[Dh]);cases Bb with
  |rep _ _ hr=>cases hr
  |ref _ _ _ _ pb pj ob ho hg Jw=>
   have Ja:s.hp[o]?=some ob:=by rw[<-hu o hU];exact ho
   simp only[Qv,Ja] at he;split at he;rotate_left
   ·cases he
   rename_i Gk;obtain⟨rfl,rfl⟩:=Jw Gk;split at he
   ·rename_i Jj;cases he;obtain⟨rfl,Sz,Ik,hok,Bl⟩:=hob;obtain⟨vs,b1,b2,b3,b4,b5⟩:=Ld hx hok;have Aj2:=(hW.obs o ob ho).box Jj;obtain⟨r,Gc⟩:∃r,ob.els=[r]:=by
     match hq:ob.els,Aj2 with
     |[r],_=>exact⟨r,rfl⟩
    have hvl:vs.length=P.cellsOf t:=by omega
    obtain⟨w',E',c1,c2,c3,c4,c5⟩:=Amt (P:=P) (e:=0) (c:=c) (vs:=vs) (new:=cellsOf x) (ob':={ ob with els:=[Dm ob.sz (P.cellsOf t) c (ob.els.getD 0 []) (cellsOf x)],cl:=x.closed && (ob.cl || P.cellsOf t==ob.sz) }) hW ho
     (show 0<ob.els.length by omega) (by omega) (by omega) (by omega) (by omega) b3 (by simp[Gc,hvl]) rfl rfl rfl rfl b4 (fun Rh=>by
      have hcl:x.closed=true/\(ob.cl=true\/P.cellsOf t=ob.sz):=by
       rcases Rh with Rh|Rh
       ·rw[Jj] at Rh;cases Rh
       ·simpa using Rh
      refine⟨b5 hcl.1,?_⟩;rcases hcl.2 with h|h
      ·exact .inl (.inr h)
      ·exact .inr ⟨by omega,Aj2⟩)
    refine⟨w',E',Afw hinf b1 hvl c1,⟨c2,c3,fun i Gl=>?_,fun i Gl=>?_⟩,by omega,rfl,trivial⟩
    ·rw[c4,Sd s.hp o i _ ob Ja]
     by_cases Ej:i=o
     ·simp[Ej]
     ·simp only[if_neg Ej];exact hu i Gl
    ·rw[c4];have:i≠o:=by rintro rfl;exact Gl hU
     simp only[if_neg this]
   ·rename_i Jj;split at he;rotate_left
    ·cases he
    rename_i x' h hcl;split at he;rotate_left
    ·cases he
    rename_i ob1 Aj1;split at he;rotate_left
    ·cases he
    rename_i hg1;cases he;obtain⟨Aq,Sz,Ik,Bl,hok⟩:=hob;obtain⟨q1,E1,st1,rep1,bb,tt⟩:=Xb hW hu hcl hx (fun i hii=>Lx i (by simp only[Pi,Ja,if_neg Jj];exact hii));have Vh:E1.H o=some ob1:=by rw[st1.on o hU];exact Aj1
    obtain⟨obz,z1,z2,z3,z4⟩:=st1.ext.H o ob ho;rw[Vh] at z1;cases z1;obtain⟨vs,b1,b2,b3,b4,b5⟩:=Ld (.rep _ _ rep1:RelV E1 xv x') hok;have hcl':x'.closed=true:=by
     cases rep1 with
     |tup=>simp[SV.ok] at hok
     |_=>rfl
    have hvl:vs.length=P.cellsOf t:=by omega
    obtain⟨w',E',c1,c2,c3,c4,c5⟩:=Amt (P:=P) (e:=e) (c:=c) (vs:=vs) (new:=cellsOf x') (ob':={ ob1 with els:=ob1.els.set e (Dm ob1.sz (P.cellsOf t) c (ob1.els.getD e []) (cellsOf x')) }) st1.wo Vh
     Aq (by omega) (by omega) (by omega) Sz b3 (by rw[hvl]) rfl rfl rfl rfl b4 (fun _=>⟨b5 hcl',.inl (.inl hg1.2)⟩)
    rw[bb,z2] at c1;have hho1:h[o]?=some ob1:=Aj1;refine⟨w',E',Afw hinf b1 hvl c1,⟨st1.ext.trans c2,c3,fun i Gl=>?_,fun i Gl=>?_⟩,by omega,rfl,trivial⟩
    ·rw[c4,Sd h o i _ ob1 hho1]
     by_cases Ej:i=o
     ·simp[Ej]
     ·simp only[if_neg Ej];exact st1.on i Gl
    ·rw[c4];have:i≠o:=by rintro rfl;exact Gl hU
     simp only[if_neg this];exact st1.off i Gl
 |gp=>cases hgp
 |_=>simp[Qv] at he
end
section
variable{P:Program}{U:Nat->Prop}{w0:World}{own:Nat->Prop}{E:Env}{w:World}{s:St}{a:Act}
def W.bind(h:W w0 own E w)(n:Nat)(c:Array Value)(e:TypeId)(ob:Ob)(hn:∀ob0,E.H n=some ob0->ob0.gen<ob.gen/\ob.sz=ob0.sz)
  (hr:∀r∈ob.els,r.length=ob.sz) (hf:ob.frz<=ob.els.length) (Ew:ob.els.length*ob.sz<=c.size) (Jj:ob.box=true->ob.els.length=1) (Jv:ob.els.length<=140737488355328)
  (Fi:∀(k:Nat) (v:Value),c[k]?=some v->v.oneCell'=true)
  (Er:∀(k:Nat) (v:Value) (x:SV),c[k]?=some v->ob.els.flatten[k]?=some x->RelV E v x)
  (Sx:(ob.box=false\/ob.cl=true)->∀(k:Nat) (v:Value) (x:SV),c[k]?=some v->ob.els.flatten[k]?=some x->Rep E.m v x) :
  ∃E',Ext E E'/\W w0 own E' (w.alloc (.cells c e))/\E'.H=(fun o=>if o=n then some ob else E.H o)/\E'.β n=w.heap.size/\E'.t n=c.size:=by
 let E':Env:={ m:=⟨fun b j=>if b=w.heap.size then (if j<ob.frz*ob.sz then c[j]? else none) else E.m b j,E.m.d,fun b=>E.m.p b\/b=w.heap.size,E.m.inj⟩,m0:=E.m0,H:=fun o=>if o=n then some ob else E.H o,β:=fun o=>if o=n then w.heap.size else E.β o,t:=fun o=>if o=n then c.size else E.t o }
 have hm:E.m.le E'.m:=by
  refine⟨?_,fun _ _ h=>h,fun _ h=>.inl h⟩;intro b j v hv;have:=Wg (h.mem b j v hv);simp only[E',if_neg (show b≠w.heap.size by omega)];exact hv
 have hext:Ext E E':=by
  refine⟨⟨hm,fun o ob1 ho=>?_,rfl⟩,rfl⟩
  by_cases Ck:o=n
  ·subst Ck;obtain⟨h1,h2⟩:=hn ob1 ho;exact⟨ob,by simp[E'],h2,by omega,fun hg=>by omega⟩
  ·exact⟨ob1,by simp only[E',if_neg Ck];exact ho,rfl,q_ja _,fun _=>by simp only[E',if_neg Ck];simp⟩
 have hmem:∀b j v,E'.m b j=some v->(w.alloc (.cells c e)).cell? ⟨b,j,none⟩=some v:=fun b j v hv=>by
  by_cases hb:b=w.heap.size
  ·subst hb;simp only[E',if_true] at hv;split at hv
   ·rw[Pm (heap_alloc_new w _)];exact hv
   ·cases hv
  ·simp only[E',if_neg hb] at hv;have:=h.mem b j v hv;rw[World.cell?_alloc_lt w _ _ (Wg this)];exact this
 refine⟨E',hext,⟨h.os,h.tape,h.output,by simp;exact Nat.le_succ_of_le h.size,fun k hk ho=>?_,hmem,fun o ob1 ho=>?_,fun o o' ob1 ob2 h1 h2 Dj ht Yw=>?_,fun b j hb hown=>by simp only[E'];rw[if_neg (by have:=h.size;omega)];exact h.keep b j hb hown,fun b hb=>by
  rcases hb with hb|rfl
  ·obtain⟨c1,e1,h1⟩:=h.pl b hb;exact⟨c1,e1,by rw[Below.heap_alloc _ _ _ (Array.getElem?_eq_some_iff.1 h1).1];exact h1⟩
  ·exact⟨c,e,heap_alloc_new w _⟩,h.tb⟩,rfl,by simp[E'],by simp[E']⟩
 ·rw[Below.heap_alloc _ _ _ (q_kp hk h.size)];exact h.block k hk ho
 ·by_cases Ck:o=n
  ·subst Ck;have:ob1=ob:=by simp[E'] at ho;exact ho.symm
   subst this;refine⟨hr,hf,by simpa [E'] using Ew,Jj,Jv,fun ht=>⟨c,e,⟨?_,by simp[E'],?_,fun k v x hv hx=>(Er k v x hv hx).mono hext,Fi,?_,?_,fun hb k v x hv hx=>(Sx hb k v x hv hx).mono hm,by simp[E']⟩⟩⟩
   ·simp only[E',if_true];exact heap_alloc_new w _
   ·left;simp[E'];exact h.size
   ·intro k hk;simp only[E',if_true,if_pos hk]
   ·intro k hk;simp only[E',if_true,if_neg (show ¬k<ob1.frz*ob1.sz by omega)]
  ·have Gq:E.H o=some ob1:=by simpa [E',Ck] using ho
   have hk:=h.obs o ob1 Gq;refine⟨hk.rows,hk.frz,by simpa [E',Ck] using hk.fit,hk.box,hk.bnd,fun ht=>?_⟩;have Yw:0<E.t o:=by simpa [E',Ck] using ht
   obtain⟨c1,e1,k⟩:=hk.live Yw;have Aq:=h.lt Gq Yw;have Dj:E.β o≠w.heap.size:=by omega
   refine⟨c1,e1,⟨?_,by simpa [E',Ck] using k.size,by simpa [E',Ck] using k.new,fun j v x hv hx=>(k.rel j v x hv hx).mono hext,k.one,fun j hj=>?_,fun j hj=>?_,fun hb j v x hv hx=>(k.clo hb j v x hv hx).mono hm,by simp only[E',if_neg Ck];exact .inl k.pl⟩⟩
   ·simp only[E',if_neg Ck];rw[Below.heap_alloc _ _ _ Aq];exact k.blk
   ·simp only[E',if_neg Ck,if_neg Dj];exact k.old j hj
   ·simp only[E',if_neg Ck,if_neg Dj];exact k.free j hj
 ·by_cases ho:o=n<;>by_cases Gq:o'=n
  ·omega
  ·subst ho;have Vf:E.H o'=some ob2:=by simpa [E',Gq] using h2
   have:=h.lt Vf (by simpa [E',Gq] using Yw);simp[E',Gq];omega
  ·subst Gq;have h1':E.H o=some ob1:=by simpa [E',ho] using h1
   have:=h.lt h1' (by simpa [E',ho] using ht);simp[E',ho];omega
  ·simp only[E',if_neg ho,if_neg Gq] at *
   exact h.inj o o' ob1 ob2 h1 h2 Dj ht Yw
def Abm(hW:W w0 own E w)(hu:∀o,U o->E.H o=s.hp[o]?)(hn:U s.hp.length)(c:Array Value)(e:TypeId)(ob:Ob)
  (hr:∀r∈ob.els,r.length=ob.sz) (hf:ob.frz<=ob.els.length) (Ew:ob.els.length*ob.sz<=c.size) (Jj:ob.box=true->ob.els.length=1) (Jv:ob.els.length<=140737488355328)
  (Fi:∀(k:Nat) (v:Value),c[k]?=some v->v.oneCell'=true)
  (Er:∀(k:Nat) (v:Value) (x:SV),c[k]?=some v->ob.els.flatten[k]?=some x->RelV E v x)
  (Sx:(ob.box=false\/ob.cl=true)->∀(k:Nat) (v:Value) (x:SV),c[k]?=some v->ob.els.flatten[k]?=some x->Rep E.m v x) :
  ∃E',Step U w0 own E E' (w.alloc (.cells c e)) (s.hp++[ob])/\E'.H s.hp.length=some ob/\E'.β s.hp.length=w.heap.size/\E'.t s.hp.length=c.size:=by
 have Ov:E.H s.hp.length=none:=by rw[hu _ hn];simp
 obtain⟨E',a1,a2,a3,a4,a5⟩:=hW.bind s.hp.length c e ob (fun ob0 h0=>by rw[Ov] at h0;cases h0) hr hf Ew Jj Jv Fi Er Sx;refine⟨E',⟨a1,a2,fun o ho=>?_,fun o ho=>?_⟩,by rw[a3];simp,a4,a5⟩
 ·rw[a3]
  by_cases Ck:o=s.hp.length
  ·simp[Ck]
  ·simp only[if_neg Ck,hu o ho];rcases q_jo o s.hp.length with h1|h1
   ·rw[q_jf h1]
   ·rw[q_jd h1,q_jd (by simp;omega)]
 ·rw[a3];have:o≠s.hp.length:=by rintro rfl;exact ho hn
  simp only[if_neg this]
def Ag0{v:Value}{x:SV}(hW:W w0 own E w)(hu:∀o,U o->E.H o=s.hp[o]?)(hn:U s.hp.length)(t:TypeId)(hx:RelV E v x)(hok:x.ok=true) :
  ∃E',RelV E' (.pointer (some ⟨w.heap.size,0,none⟩)) (.ref s.hp.length 0 0 0) /\
   Step U w0 own E E' (w.alloc (.cells v.cells t)) (s.hp++[{ box:=true,sz:=(cellsOf x).length,els:=[cellsOf x],frz:=0,gen:=0,cl:=x.closed }]):=by
 obtain⟨vs,b1,b2,b3,b4,b5⟩:=Ld hx hok;obtain⟨E',a1,a2,a3,a4⟩:=Abm (s:=s) hW hu hn v.cells t { box:=true,sz:=(cellsOf x).length,els:=[cellsOf x],frz:=0,gen:=0,cl:=x.closed } (by simp) (by simp) (by simp[b1,b2]) (by simp) (by simp)
  (fun k v hv=>by rw[b1] at hv;exact b3 v (q_jb (by simpa using hv))) (fun k v y hv hy=>by rw[b1] at hv;exact b4 k v y (by simpa using hv) (by simpa using hy))
  (fun hb k v y hv hy=>by
   rw[b1] at hv;rcases hb with hb|hb
   ·cases hb
   ·exact b5 hb k v y (by simpa using hv) (by simpa using hy))
 refine⟨E',?_,a1⟩;exact .ref _ _ _ _ _ _ _ a2 (q_ja _) (fun _=>by simp[a3])
def Sf{m:Mem}{e:TypeId}{z:SV}(h:Lb P e=some z):∃i v,P.info? e=some i/\i.zero=some v/\Zq v=some z/\Rep m v z:=by
 unfold Lb at h;cases hi:P.info? e with
 |none=>simp[hi] at h
 |some i=>
  cases hz:i.zero with
  |none=>simp[hi,hz] at h
  |some v=>
   simp only[hi,hz,Option.bind_some] at h;exact⟨i,v,rfl,hz,h,(Lm h).1⟩
def Aa0{z:Array Value}{n:Nat}(h1:∀v∈z.toList,v.oneCell'=true)(hz:0<z.size)(k:Nat)(v:Value)(hv:(madeCells z n)[k]?=some v):v.oneCell'=true/\z[k % z.size]?=some v:=by
 unfold madeCells at hv;rw[Array.getElem?_map] at hv
 by_cases hk:k<n
 ·have:(Array.range n)[k]?=some k:=by simp[hk]
  rw[this] at hv;simp only[q_jh,q_b] at hv;have Aq:k % z.size<z.size:=Nat.mod_lt _ hz;have Gj:z[k % z.size]?=some v:=by
   rw[<-hv];simp[getElem!_pos,Aq]
  refine⟨h1 v ?_,Gj⟩;have:=q_jb (show z.toList[k % z.size]?=some v by simpa using Gj);exact this
 ·have:(Array.range n)[k]?=none:=by simp;omega
  rw[this] at hv;cases hv
def Ay7{t e:TypeId}{z:SV}{kl kc:IntKind}{l c:Int}(hW:W w0 own E w)(hu:∀o,U o->E.H o=s.hp[o]?)(hn:U s.hp.length)(ht:P.underlying t=some (.slice e))(hz:Lb P e=some z)
  (Cf:(cellsOf z).length=P.cellsOf e) (Dw:0<P.cellsOf e) (h1:0<=l) (h2:l<=c) (h3:c*(P.bytesOf e:Int)<=140737488355328) (h4:c<=140737488355328) :
  ∃v w' E',(Instr.makeSlice t (.int kl l) (.int kc c)).run P w=.ok v w'/\RelV E' v (.osl s.hp.length 0 0 l.toNat) /\
   Step U w0 own E E' w' (s.hp++[{ box:=false,sz:=P.cellsOf e,els:=List.replicate l.toNat (cellsOf z),frz:=0,gen:=0,cl:=true }])/\w.heap.size<=w'.heap.size:=by
 obtain⟨i,zv,hi,Hh,Jm,Cu⟩:=Sf (m:=E.m) hz;have Mp:=Aci hi;have Kk:P.bytesOf e=i.bytes:=by simp[Program.bytesOf,hi]
 obtain⟨vs,b1,b2,b3,b4,b5⟩:=Ld (.rep _ _ Cu:RelV E zv z) (Lm (m:=E.m) Jm).2.2;have hclz:=(Lm (m:=E.m) Jm).2.1;have Hr:=run_make (P:=P) w t e i zv ht hi Hh kl kc l c h1 h2 (by rw[Kk] at h3;rw[Int.mul_comm];omega) (by omega);rw[b1] at Hr;have Ma:l.toNat*P.cellsOf e<=c.toNat*P.cellsOf e:=q_jy _ (by omega);have Ft:∀r∈List.replicate l.toNat (cellsOf z),r.length=P.cellsOf e:=fun r hr=>by rw[(List.mem_replicate.1 hr).2];exact Cf
 have Er:∀(k:Nat) (v:Value) (x:SV),(madeCells vs.toArray (c.toNat*i.size))[k]?=some v->(List.replicate l.toNat (cellsOf z)).flatten[k]?=some x->Rep E.m v x:=by
  intro k v x hv hx;have hvs:vs.toArray.size=P.cellsOf e:=by simp;omega
  have h5:=(Aa0 (by simpa using b3) (by omega) k v hv).2;rw[hvs] at h5;have h6:=Pr Ft (k / P.cellsOf e) (k % P.cellsOf e) (Nat.mod_lt _ Dw);rw[Nat.div_add_mod' k (P.cellsOf e)] at h6;rw[h6] at hx;cases hq:(List.replicate l.toNat (cellsOf z))[k / P.cellsOf e]? with
  |none=>rw[hq] at hx;cases hx
  |some r=>
   rw[hq] at hx;have hr:=q_jb hq;rw[(List.mem_replicate.1 hr).2] at hx;exact b5 hclz _ v x (by simpa using h5) hx
 obtain⟨E',a1,a2,a3,a4⟩:=Abm (s:=s) hW hu hn (madeCells vs.toArray (c.toNat*i.size)) e { box:=false,sz:=P.cellsOf e,els:=List.replicate l.toNat (cellsOf z),frz:=0,gen:=0,cl:=true }
  Ft (Nat.zero_le _) (by rw[size_madeCells,<-Mp];simpa using Ma) (by simp) (by simp;omega) (fun k v hv=>(Aa0 (by simpa using b3) (by simp;omega) k v hv).1)
  (fun k v x hv hx=>.rep v x (Er k v x hv hx)) (fun _=>Er)
 refine⟨_,_,E',Hr,?_,a1,by simp⟩;refine .osl _ _ _ _ _ _ _ _ a2 (q_ja _) ⟨rfl,by omega,fun _=>⟨_,_,rfl⟩⟩ (fun _=>⟨by simp,.inl ⟨by simp[a3],?_⟩⟩);rw[a4,size_madeCells,<-Mp];simp
end
section
variable{P:Program}{U:Nat->Prop}{w0:World}{own:Nat->Prop}{E:Env}{w:World}{s:St}{a:Act}
def Ass{sz:Nat}{xv:Value}{x:SV}{xs:GV}(hW:W w0 own E w)(hu:∀o,U o->E.H o=s.hp[o]?)(hx:RelV E xv x)(hi:∀o∈Dh x,U o)(he:Sm s.hp sz x=some xs) :
  ∃(A:Option Addr) (c:Nat),xv=.slice A xs.length c/\(∀r∈xs,r.length=sz)/\(xs=[]\/∃(b off:Nat) (news:List Value),A=some ⟨b,off,none⟩/\news.length=xs.length*sz/\(∀j u,news[j]?=some u->w.cell? ⟨b,off+j,none⟩=some u)/\(∀u∈news,u.oneCell'=true) /\
   (∀(j:Nat) (v:Value) (y:SV),news[j]?=some v->xs.flatten[j]?=some y->Rep E.m v y)):=by
 cases x with
 |nils=>
  simp only[Sm,q_b] at he;subst he;cases hx.closed_rep rfl with
  |nils=>exact⟨none,0,rfl,by simp,.inl rfl⟩
 |dsl sz' l=>
  simp only[Sm] at he;split at he;rotate_left
  ·cases he
  rename_i hs;cases he;subst hs;cases hx.closed_rep rfl with
  |dsl0 _ A cap=>exact⟨A,cap,rfl,by simp,.inl rfl⟩
  |dsl _ _ cap b off vs h0 h1 h2 h3 h4 h5 h6=>
   exact⟨_,cap,rfl,h3,.inr ⟨b,off,vs,rfl,by rw[h4,Iu h3],fun j u hju=>hW.mem _ _ _ (h5 j u hju),h0,h6⟩⟩
 |osl o g off len=>
  have hU:=hi o (by simp[Dh]);cases hx with
  |rep _ _ hr=>cases hr
  |osl _ _ _ _ A n cap ob ho hg hnc Yc=>
   have Jw:=fun (h:ob.gen=g)=>And.intro hnc.1 (And.intro hnc.2.1 (Yc h))
   simp only[Sm] at he;rw[<-hu o hU,ho] at he;simp only at he;split at he;rotate_left
   ·cases he
   rename_i hc;obtain⟨hb,Gk,Cf⟩:=hc;cases he;obtain⟨rfl,In,Ew,hA⟩:=Jw Gk;have hk:=hW.obs o ob ho;have Ft:∀r∈(ob.els.drop off).take n,r.length=sz:=fun r hr=>by rw[<-Cf];exact hk.rows r (List.mem_of_mem_drop (List.mem_of_mem_take hr))
   have Bl:((ob.els.drop off).take n).length=n:=by simp;omega
   refine⟨A,cap,by rw[Bl],Ft,?_⟩;rcases Nat.eq_zero_or_pos n with h0|h0
   ·left;subst h0;simp
   ·right;rcases hA with⟨rfl,Ou⟩|Sw
    rotate_left
    ·omega
    -- read the row through what frozen would read
    rcases Nat.eq_zero_or_pos (E.t o) with ht|ht
    ·have Wa:ob.sz=0:=by
      have:n*ob.sz<=(off+cap)*ob.sz:=q_jy _ (by omega);have h3:n*ob.sz=0:=by omega
      rcases Nat.mul_eq_zero.1 h3 with h|h
      ·omega
      ·exact h
     refine⟨_,_,[],rfl,by rw[<-Cf,Wa];simp,by simp,by simp,by simp⟩
    ·obtain⟨cc,ee,hl⟩:=hk.live ht;have hcs:=hl.size;have Gc:=Iu hk.rows;have Ma:(off+n)*ob.sz<=ob.els.length*ob.sz:=q_jy _ Ew;rw[Nat.add_mul] at Ma;have hf:=hk.fit;have Hp:((ob.els.drop off).take n).flatten=(ob.els.flatten.drop (off*ob.sz)).take (n*ob.sz):=by
      rw[v6 (sz:=ob.sz) (fun r hr=>hk.rows r (List.mem_of_mem_drop hr)),u9 hk.rows]
     refine⟨E.β o,off*ob.sz,(cc.toList.drop (off*ob.sz)).take (n*ob.sz),rfl,by rw[Bl,<-Cf];simp;omega,fun j v hv=>?_,Wi hl.one (fun v hv=>List.mem_of_mem_drop (List.mem_of_mem_take hv)),fun j v y hv hy=>?_⟩
     ·rw[q_jx] at hv;split at hv
      ·have:=getElem?_drop_some hv;rw[Pm hl.blk];simpa using this
      ·cases hv
     ·rw[Hp,q_jx] at hy;rw[q_jx] at hv;split at hv
      ·rename_i hj;rw[if_pos hj] at hy;have h1:=getElem?_drop_some hv;have h2:=getElem?_drop_some hy;exact hl.clo (.inl hb) _ v y (by simpa using h1) h2
      ·cases hv
 |_=>simp[Sm] at he
def Afu{t ty e:TypeId}{i:TypeInfo}(ht:P.underlying t=some (.slice e))(hi:P.info? e=some i)(B A:Option Addr)(n c c':Nat)(hnc:n<=c) :
  (Builtin.append_ #[t,t] ty #[.slice B n c,.slice A 0 c']).run P w=.ok (.slice B n c) w:=by
 have h1:(Builtin.firstCells i.size 0 (.slice A 0 c')).run P w=.ok #[] w:=by
  cases A with
  |none=>simp[Builtin.firstCells]
  |some a=>simp[Builtin.firstCells,loadCells,loadCellsFrom]
 cases B with
 |none=>simp[Builtin.append_,run_underlying ht,sizeOf,typeInfo,hi,Builtin.lenOf,hnc,h1]
 |some b=>simp[Builtin.append_,run_underlying ht,sizeOf,typeInfo,hi,Builtin.lenOf,hnc,h1,storeCells]
def A2i{t ty e ee:TypeId}{i:TypeInfo}(ht:P.underlying t=some (.slice e))(hi:P.info? e=some i)
  (g sLen sCap:Nat) (cur:Array Value) (hg:w.heap[g]?=some (.cells cur ee (0,0)))
  (a:Addr) (m c:Nat) (news:List Value) (hl:news.length=m*i.size) (Mv:∀j u,news[j]?=some u->w.cell? (a.add j)=some u) (h1:∀u∈news,u.oneCell'=true)
  (Vy:sLen+m<=sCap) (Ew:sLen*i.size+news.length<=cur.size) :
  (Builtin.append_ #[t,t] ty #[.slice (some ⟨g,0,none⟩) sLen sCap,.slice (some a) m c]).run P w =
   .ok (.slice (some ⟨g,0,none⟩) (sLen+m) sCap) (w.setRow g (cur.toList.take (sLen*i.size)++news++cur.toList.drop (sLen*i.size+news.length)).toArray):=by
 have hf:=run_firstCells_some (P:=P) w i.size m a m c news hl Mv;have Gz:=run_storeCells_at P g (sLen*i.size) ee news 0 cur w hg (by simpa using Ew) h1;simp only[q_jp] at Gz;simp[Builtin.append_,run_underlying ht,sizeOf,typeInfo,hi,Builtin.lenOf,Vy,hf,Addr.add_lit,Gz]
def A5z{z:Array Value}{n:Nat}(h1:∀v∈z.toList,v.oneCell'=true)(hz:0<z.size)(k:Nat)(v:Value)(hv:(Builtin.zeroCells z n)[k]?=some v):v.oneCell'=true:=
 (Aa0 (n:=n*z.size) h1 hz k v hv).1
def Aip{sz:Nat}{z:Array Value}{olds news:List Value}{oe ne:GV}{q:Nat}(h1:∀v∈z.toList,v.oneCell'=true)(hz:z.size=sz)(Dw:0<sz)(ho:∀r∈oe,r.length=sz)(hn:∀r∈ne,r.length=sz)
  (Qc:olds.length=oe.length*sz) (hnl:news.length=ne.length*sz) (ho1:∀u∈olds,u.oneCell'=true) (Jl:∀u∈news,u.oneCell'=true)
  (hor:∀(j:Nat) (v:Value) (y:SV),olds[j]?=some v->oe.flatten[j]?=some y->Rep E.m v y) (Ow:∀(j:Nat) (v:Value) (y:SV),news[j]?=some v->ne.flatten[j]?=some y->Rep E.m v y) :
  (∀(k:Nat) (v:Value),(olds.toArray++news.toArray++Builtin.zeroCells z q)[k]?=some v->v.oneCell'=true) /\
  (∀(k:Nat) (v:Value) (x:SV),(olds.toArray++news.toArray++Builtin.zeroCells z q)[k]?=some v->(oe++ne).flatten[k]?=some x->Rep E.m v x):=by
 have Ar:=Iu ho;have hnf:=Iu hn;constructor
 ·intro k v hv;rw[Array.getElem?_append] at hv;split at hv
  ·rw[Array.getElem?_append] at hv;split at hv
   ·exact ho1 v (q_jb (by simpa using hv))
   ·exact Jl v (q_jb (by simpa using hv))
  ·exact A5z h1 (by omega) _ v hv
 ·intro k v x hv hx;rw[List.flatten_append] at hx;have hk:k<oe.flatten.length+ne.flatten.length:=by
   rcases q_jo k (oe.flatten++ne.flatten).length with h|h
   ·simpa using h
   ·rw[q_jd h] at hx;cases hx
  rw[Array.getElem?_append] at hv;split at hv
  ·rw[Array.getElem?_append] at hv;split at hv
   ·rename_i Aq;simp only[List.size_toArray] at Aq;rw[q_jf (by omega)] at hx;exact hor k v x (by simpa using hv) hx
   ·rename_i Aq;simp only[List.size_toArray] at Aq hv;rw[q_jj (by omega)] at hx;exact Ow (k-olds.length) v x (by simpa using hv) (by rw[<-Qc,<-Ar] at *;simpa [Ar,Qc] using hx)
  ·rename_i Aq;simp at Aq;omega
def Acc{o:Nat}{ob ob':Ob}(hu:∀o,U o->E.H o=s.hp[o]?)(hU:U o)(Ja:s.hp[o]?=some ob){E':Env}{w':World}(h1:Ext E E')(h2:W w0 own E' w')
  (h3:E'.H=(fun j=>if j=o then some ob' else E.H j)):Step U w0 own E E' w' (s.hp.set o ob'):=by
 refine⟨h1,h2,fun j hj=>?_,fun j hj=>?_⟩
 ·rw[h3,Sd s.hp o j _ ob Ja]
  by_cases Jx:j=o
  ·simp[Jx]
  ·simp only[if_neg Jx];exact hu j hj
 ·rw[h3];have:j≠o:=by rintro rfl;exact hj hU
  simp only[if_neg this]
def An1{t ty e:TypeId}{i:TypeInfo}{o g n cap c:Nat}{ob:Ob}{A B:Option Addr}(hW:W w0 own E w)(ho:E.H o=some ob)(ht:P.underlying t=some (.slice e))(hi:P.info? e=some i)(Gk:ob.gen=g)
  (In:n<=cap) (Ew:0+n<=ob.els.length) (hB:(B=some ⟨E.β o,0*ob.sz,none⟩/\(0+cap)*ob.sz<=E.t o)\/cap=0) :
  ∃E',(Builtin.append_ #[t,t] ty #[.slice B n cap,.slice A 0 c]).run P w=.ok (.slice B n cap) w/\RelV E' (.slice B n cap) (.osl o (g+1) 0 n)/\Ext E E'/\W w0 own E' w /\
   E'.H=(fun j=>if j=o then some { ob with frz:=ob.els.length,gen:=g+1 } else E.H j):=by
 have hk:=hW.obs o ob ho;have hr:=Afu (P:=P) (w:=w) (ty:=ty) ht hi B A n cap c In;have Fu:∀{E':Env},E'.H=(fun j=>if j=o then some { ob with frz:=ob.els.length,gen:=g+1 } else E.H j)->E'.β=E.β->E'.t=E.t->RelV E' (.slice B n cap) (.osl o (g+1) 0 n):=by
  intro E' h1 h2 h3;refine .osl _ _ _ _ _ _ _ { ob with frz:=ob.els.length,gen:=g+1 } (by rw[h1];simp) (q_ja _) ⟨rfl,In,fun hp=>by
   rcases hB with⟨hB,_⟩|h0
   ·exact⟨_,_,hB⟩
   ·omega⟩ (fun _=>⟨Ew,?_⟩)
  rw[h2,h3];exact hB
 rcases Nat.eq_zero_or_pos (E.t o) with Tp|Tp
 ·have hf0:=hk.fit;rw[Tp] at hf0;obtain⟨E',a1,a2,a3,a4,a5,a6⟩:=hW.put0 (ob':={ ob with frz:=ob.els.length,gen:=g+1 }) ho Tp rfl (by simp[Gk]) (q_ja _) hk.rows (q_ja _) hf0 hk.box hk.bnd;exact⟨E',hr,Fu a3 a4 a5,a1,a2,a3⟩
 ·obtain⟨cc,ee,hl⟩:=hk.live Tp;obtain⟨E',a1,a2,a3,a4,a5,a6,a7⟩:=hW.put (w':=w) (ob':={ ob with frz:=ob.els.length,gen:=g+1 }) ho hl rfl rfl rfl rfl (fun _ _=>rfl) hl.blk rfl rfl (by simp[Gk]) (q_ja _) hk.frz
   (fun _ _=>rfl) hk.rows (q_ja _) (by rw[hl.size];exact hk.fit) hk.box hk.bnd hl.one hl.rel hl.clo
  exact⟨E',hr,Fu a3 a4 a5,a1,a2,a3⟩
def An2{t ty e:TypeId}{i:TypeInfo}{o g n cap c b off:Nat}{ob:Ob}{xs:GV}{news:List Value}(hW:W w0 own E w)(ho:E.H o=some ob)(ht:P.underlying t=some (.slice e))(hi:P.info? e=some i)(Gk:ob.gen=g)
  (hb:ob.box=false) (Nu:i.size=ob.sz) (Dw:0<ob.sz) (Bl:n=ob.els.length) (Ou:(0+cap)*ob.sz<=E.t o) (Vy:n+xs.length<=cap) (Nr:0<cap) (Jv:n+xs.length<=140737488355328)
  (Ft:∀r∈xs,r.length=ob.sz) (hnl:news.length=xs.length*ob.sz) (Mv:∀j u,news[j]?=some u->w.cell? ⟨b,off+j,none⟩=some u) (Jl:∀u∈news,u.oneCell'=true)
  (Ow:∀(j:Nat) (v:Value) (y:SV),news[j]?=some v->xs.flatten[j]?=some y->Rep E.m v y) :
  ∃w' E',(Builtin.append_ #[t,t] ty #[.slice (some ⟨E.β o,0*ob.sz,none⟩) n cap,.slice (some ⟨b,off,none⟩) xs.length c]).run P w=.ok (.slice (some ⟨E.β o,0*ob.sz,none⟩) (n+xs.length) cap) w' /\
   RelV E' (.slice (some ⟨E.β o,0*ob.sz,none⟩) (n+xs.length) cap) (.osl o (g+1) 0 (n+xs.length))/\Ext E E'/\W w0 own E' w'/\w.heap.size<=w'.heap.size /\
   E'.H=(fun j=>if j=o then some { ob with els:=ob.els++xs,frz:=ob.els.length,gen:=g+1 } else E.H j):=by
 have hk:=hW.obs o ob ho;have Aee:=Iu hk.rows;have hxfl:=Iu Ft;have Aes:0<E.t o:=by
  have:1*ob.sz<=(0+cap)*ob.sz:=q_jy _ (by omega);omega
 obtain⟨cc,ee,hl⟩:=hk.live Aes;have hcs:=hl.size;have Lz:(n+xs.length)*ob.sz<=(0+cap)*ob.sz:=q_jy _ (by omega);rw[Nat.add_mul] at Lz;have Sr:∀j u,news[j]?=some u->w.cell? ((⟨b,off,none⟩:Addr).add j)=some u:=fun j v hv=>by rw[Mk];exact Mv j v hv
 have hr:=A2i (P:=P) (ty:=ty) ht hi (E.β o) n cap cc hl.blk ⟨b,off,none⟩ xs.length c news (by rw[hnl,Nu]) Sr Jl Vy (by rw[Nu,hnl,hcs];omega);rw[Nu] at hr;have Mo:∀k,(cc.toList.take (n*ob.sz)++news++cc.toList.drop (n*ob.sz+news.length)).toArray[k]?=if n*ob.sz<=k/\k<n*ob.sz+news.length then news[k-n*ob.sz]? else cc[k]?:=by
  intro k;have:=Tz cc.toList news (n*ob.sz) (by have:=Array.length_toList (xs:=cc);omega) k;simpa using this
 have hcz:(cc.toList.take (n*ob.sz)++news++cc.toList.drop (n*ob.sz+news.length)).toArray.size=cc.size:=by
  simp only[List.size_toArray,q_jr,q_kg,q_kh,Array.length_toList];omega
 generalize (cc.toList.take (n*ob.sz)++news++cc.toList.drop (n*ob.sz+news.length)).toArray=c' at hr Mo hcz;have Aep:∀r∈ob.els++xs,r.length=ob.sz:=by
  intro r hr;rcases q_ke.1 hr with h|h
  ·exact hk.rows r h
  ·exact Ft r h
 have Aj8:∀{R:Value->SV->Prop},(∀(k:Nat) (v:Value) (x:SV),cc[k]?=some v->ob.els.flatten[k]?=some x->R v x)->(∀v x,Rep E.m v x->R v x) ->
   ∀(k:Nat) (v:Value) (x:SV),c'[k]?=some v->(ob.els++xs).flatten[k]?=some x->R v x:=by
  intro R hR1 hR2 k v x hv hx;rw[Mo k] at hv;rw[List.flatten_append] at hx
  by_cases Fh:k<n*ob.sz
  ·rw[if_neg (by omega)] at hv;rw[q_jf (by rw[Aee,<-Bl];exact Fh)] at hx;exact hR1 k v x hv hx
  ·rw[q_jj (by rw[Aee,<-Bl];omega)] at hx;rw[Aee,<-Bl] at hx;have Ek:k-n*ob.sz<xs.flatten.length:=by
    rcases q_jo (k-n*ob.sz) xs.flatten.length with h|h
    ·exact h
    ·rw[q_jd h] at hx;cases hx
   rw[if_pos (by omega)] at hv;exact hR2 v x (Ow _ v x hv hx)
 have hfz0:=hk.frz;obtain⟨E',a1,a2,a3,a4,a5,a6,a7⟩:=hW.put (w':=w.setRow (E.β o) c') (ob':={ ob with els:=ob.els++xs,frz:=ob.els.length,gen:=g+1 })
  ho hl rfl rfl rfl (by simp) (fun k hk=>setRow_other w (E.β o) k _ hk) (setRow_heap w (E.β o) cc _ ee _ hl.blk) hcz rfl (by simp[Gk]) (by simp) hfz0
  (fun j hj=>by
   have:ob.frz*ob.sz<=n*ob.sz:=q_jy _ (by omega);rw[Mo j,if_neg (by omega)])
  Aep (by simp) (by simp only[q_jr];rw[<-Bl,Nat.add_mul];omega) (fun He=>by rw[hb] at He;cases He) (by simp only[q_jr];omega)
  (fun k v hv=>by
   rw[Mo k] at hv;split at hv
   ·exact Jl v (q_jb hv)
   ·exact hl.one k v hv)
  (Aj8 hl.rel (fun v x h=>.rep v x h)) (fun _=>Aj8 (hl.clo (.inl hb)) (fun v x h=>h))
 refine⟨_,E',?_,?_,a1,a2,by simp,a3⟩
 ·rw[Nat.zero_mul];exact hr
 ·refine .osl _ _ _ _ _ _ _ { ob with els:=ob.els++xs,frz:=ob.els.length,gen:=g+1 } (by rw[a3];simp) (q_ja _) ⟨rfl,Vy,fun _=>⟨_,_,rfl⟩⟩ (fun _=>⟨by simp only[q_jr];omega,?_⟩);rw[a4,a5];exact .inl ⟨rfl,Ou⟩
def An0{t ty e:TypeId}{i:TypeInfo}{zv:Value}{o n cap c b off:Nat}{ob:Ob}{B:Option Addr}{m:Nat}{news:List Value}(hW:W w0 own E w)(ho:E.H o=some ob)(ht:P.underlying t=some (.slice e))(hi:P.info? e=some i)(Hh:i.zero=some zv)
  (hb:ob.box=false) (Nu:i.size=ob.sz) (Dw:0<ob.sz) (Bl:n=ob.els.length) (In:n<=cap) (hB:(B=some ⟨E.β o,0*ob.sz,none⟩/\(0+cap)*ob.sz<=E.t o)\/cap=0) (hgrow:cap<n+m) (Jv:n+m<=140737488355328)
  (Ri:(n+m)*i.bytes<=140737488355328) (hnl:news.length=m*ob.sz) (Mv:∀j u,news[j]?=some u->w.cell? ⟨b,off+j,none⟩=some u) :
  ∃olds:List Value,olds.length=ob.els.length*ob.sz/\(∀u∈olds,u.oneCell'=true)/\(∀(j:Nat) (v:Value) (y:SV),olds[j]?=some v->ob.els.flatten[j]?=some y->Rep E.m v y) /\
   (Builtin.append_ #[t,t] ty #[.slice B n cap,.slice (some ⟨b,off,none⟩) m c]).run P w=.ok (.slice (some ⟨w.heap.size,0,none⟩) (n+m) (grownCap w (n+m) cap e))
    (w.drew.alloc (.cells (olds.toArray++news.toArray++Builtin.zeroCells zv.cells (grownCap w (n+m) cap e-(n+m))) e)):=by
 have hk:=hW.obs o ob ho;have Sr:∀j u,news[j]?=some u->w.cell? ((⟨b,off,none⟩:Addr).add j)=some u:=fun j v hv=>by rw[Mk];exact Mv j v hv
 rcases Nat.eq_zero_or_pos n with Tg|Tg
 ·subst Tg;refine⟨[],by rw[<-Bl];simp,by simp,by simp,?_⟩;cases B with
  |none=>
   have Sw:cap=0:=by
    rcases hB with⟨h,_⟩|h
    ·cases h
    ·exact h
   subst Sw;have:=run_append_nil (P:=P) w t ty e i zv ht hi Hh ⟨b,off,none⟩ m c news (by rw[hnl,Nu]) Sr (by omega) (by omega) (by rw[q_jg] at Ri;omega);simp only[q_jg,Array.empty_append];exact this
  |some b0=>
   exact run_append_grow (P:=P) w t ty e i zv ht hi Hh b0 0 cap [] (by simp) (by simp) ⟨b,off,none⟩ m c news (by rw[hnl,Nu]) Sr hgrow (by omega) (growslice_fits hgrow Ri)
 ·rcases hB with⟨rfl,Ou⟩|h0
  rotate_left
  ·omega
  have Aes:0<E.t o:=by
   have:1*ob.sz<=(0+cap)*ob.sz:=q_jy _ (by omega);omega
  obtain⟨cc,ee,hl⟩:=hk.live Aes;have hcs:=hl.size;have hf:=hk.fit;have Ajt:(cc.toList.take (ob.els.length*ob.sz)).length=ob.els.length*ob.sz:=by simp;omega
  refine⟨cc.toList.take (ob.els.length*ob.sz),Ajt,Wi hl.one (fun v hv=>List.mem_of_mem_take hv),fun j v y hv hy=>?_,?_⟩
  ·rw[q_jx] at hv;split at hv
   ·exact hl.clo (.inl hb) j v y (by simpa using hv) hy
   ·cases hv
  ·refine run_append_grow (P:=P) w t ty e i zv ht hi Hh ⟨E.β o,0*ob.sz,none⟩ n cap _ (by rw[Ajt,Bl,Nu]) (fun j v hv=>?_) ⟨b,off,none⟩ m c news (by rw[hnl,Nu]) Sr hgrow (by omega) (growslice_fits hgrow Ri);rw[q_jx] at hv;split at hv
   ·rw[Mk,Pm hl.blk,Nat.zero_mul,q_jg];simpa using hv
   ·cases hv
def Anz{t ty e:TypeId}{i:TypeInfo}{zv:Value}{o g n cap c b off:Nat}{ob:Ob}{B:Option Addr}{xs:GV}{news:List Value}(hW:W w0 own E w)(ho:E.H o=some ob)(ht:P.underlying t=some (.slice e))(hi:P.info? e=some i)(Hh:i.zero=some zv)(Gk:ob.gen=g)
  (Zj:zv.cells.size=i.size) (Rv:∀v∈zv.cells.toList,v.oneCell'=true)
  (hb:ob.box=false) (Nu:i.size=ob.sz) (Dw:0<ob.sz) (Bl:n=ob.els.length) (In:n<=cap) (hB:(B=some ⟨E.β o,0*ob.sz,none⟩/\(0+cap)*ob.sz<=E.t o)\/cap=0) (hgrow:cap<n+xs.length) (Jv:n+xs.length<=140737488355328)
  (Ri:(n+xs.length)*i.bytes<=140737488355328) (Ft:∀r∈xs,r.length=ob.sz) (hnl:news.length=xs.length*ob.sz) (Mv:∀j u,news[j]?=some u->w.cell? ⟨b,off+j,none⟩=some u) (Jl:∀u∈news,u.oneCell'=true)
  (Ow:∀(j:Nat) (v:Value) (y:SV),news[j]?=some v->xs.flatten[j]?=some y->Rep E.m v y) :
  ∃v w' E',(Builtin.append_ #[t,t] ty #[.slice B n cap,.slice (some ⟨b,off,none⟩) xs.length c]).run P w=.ok v w' /\
   RelV E' v (.osl o (g+1) 0 (n+xs.length))/\Ext E E'/\W w0 own E' w'/\w.heap.size<=w'.heap.size /\
   E'.H=(fun j=>if j=o then some { ob with els:=ob.els++xs,frz:=ob.els.length,gen:=g+1 } else E.H j):=by
 have hk:=hW.obs o ob ho;obtain⟨olds,Qc,ho1,hor,hr⟩:=An0 (P:=P) (ty:=ty) (c:=c) hW ho ht hi Hh hb Nu Dw Bl In hB hgrow Jv Ri hnl Mv;have Hz:=grownCap_ge w (n+xs.length) cap e;obtain⟨g1,g2⟩:=Aip (E:=E) (sz:=ob.sz) (z:=zv.cells) (olds:=olds) (news:=news) (oe:=ob.els) (ne:=xs) (q:=grownCap w (n+xs.length) cap e-(n+xs.length)) Rv (by omega) Dw hk.rows Ft Qc hnl ho1 Jl hor Ow;have Rt:(olds.toArray++news.toArray++Builtin.zeroCells zv.cells (grownCap w (n+xs.length) cap e-(n+xs.length))).size=grownCap w (n+xs.length) cap e*ob.sz:=by
  rw[Array.size_append,Array.size_append,size_zeroCells,Zj,List.size_toArray,List.size_toArray,Qc,hnl,Nu,<-Nat.add_mul,<-Nat.add_mul,<-Bl];congr 1;omega
 generalize olds.toArray++news.toArray++Builtin.zeroCells zv.cells (grownCap w (n+xs.length) cap e-(n+xs.length))=c' at hr g1 g2 Rt;generalize grownCap w (n+xs.length) cap e=K at hr Hz Rt;have Aep:∀r∈ob.els++xs,r.length=ob.sz:=by
  intro r hr;rcases q_ke.1 hr with h|h
  ·exact hk.rows r h
  ·exact Ft r h
 obtain⟨E',a1,a2,a3,a4,a5⟩:=hW.drew.bind o c' e { ob with els:=ob.els++xs,frz:=ob.els.length,gen:=g+1 }
  (fun ob0 h0=>by rw[ho] at h0;cases h0;exact⟨by simp[Gk],rfl⟩) Aep (by simp) (by rw[Rt];exact q_jy _ (by simp only[q_jr];omega)) (fun He=>by rw[hb] at He;cases He) (by simp only[q_jr];omega)
  g1 (fun k v x hv hx=>.rep v x (g2 k v x hv hx)) (fun _=>g2)
 refine⟨_,_,E',hr,?_,a1,a2,by simp,a3⟩;refine .osl _ _ _ _ _ _ _ { ob with els:=ob.els++xs,frz:=ob.els.length,gen:=g+1 } (by rw[a3];simp) (q_ja _) ⟨rfl,Hz,fun _=>⟨_,_,rfl⟩⟩ (fun _=>⟨by simp only[q_jr];omega,.inl ⟨by rw[a4];simp,?_⟩⟩);rw[a5,Rt,q_jg];exact q_ja _
def Ams(hW:W w0 own E w)(hu:∀o,U o->E.H o=s.hp[o]?)(hn:U s.hp.length)(sz:Nat) :
  ∃E',Step U w0 own E E' w (s.hp++[{ box:=false,sz:=sz,els:=[],frz:=0,gen:=0,cl:=true }])/\E'.H s.hp.length=some { box:=false,sz:=sz,els:=[],frz:=0,gen:=0,cl:=true }:=by
 have Ov:E.H s.hp.length=none:=by rw[hu _ hn,q_jd (q_ja _)]
 let ob:Ob:={ box:=false,sz:=sz,els:=[],frz:=0,gen:=0,cl:=true }
 let E':Env:={ E with H:=fun o=>if o=s.hp.length then some ob else E.H o,t:=fun o=>if o=s.hp.length then 0 else E.t o }
 have Dj:∀o ob1,E.H o=some ob1->o≠s.hp.length:=fun o ob1 ho=>by rintro rfl;rw[Ov] at ho;cases ho
 have hext:Ext E E':=⟨⟨.refl _,fun o ob1 ho=>⟨ob1,by simp[E',Dj o ob1 ho,ho],rfl,q_ja _,fun _=>⟨rfl,by simp[E',Dj o ob1 ho],q_ja _⟩⟩,rfl⟩,rfl⟩
 refine⟨E',⟨hext,⟨hW.os,hW.tape,hW.output,hW.size,hW.block,hW.mem,fun o ob1 ho=>?_,fun o o' ob1 ob2 k1 k2 hoo t1 t2=>?_,hW.keep,hW.pl,hW.tb⟩,fun o hU=>?_,fun o hU=>?_⟩,by simp[E',ob]⟩
 ·by_cases Ck:o=s.hp.length
  ·subst Ck;have:ob1=ob:=by simp[E'] at ho;exact ho.symm
   subst this;exact⟨by simp[ob],by simp[ob],by simp[ob],by simp[ob],by simp[ob],fun h=>by simp[E'] at h⟩
  ·have hE:E.H o=some ob1:=by simpa [E',Ck] using ho
   have hk:=hW.obs o ob1 hE;refine⟨hk.rows,hk.frz,by simpa [E',Ck] using hk.fit,hk.box,hk.bnd,fun ht=>?_⟩;obtain⟨c,e,k⟩:=hk.live (by simpa [E',Ck] using ht);exact⟨c,e,⟨k.blk,by simpa [E',Ck] using k.size,k.new,fun j v x hv hx=>(k.rel j v x hv hx).mono hext,k.one,k.old,k.free,k.clo,by simpa [E',Ck] using k.pl⟩⟩
 ·have n1:o≠s.hp.length:=by rintro rfl;simp[E'] at t1
  have n2:o'≠s.hp.length:=by rintro rfl;simp[E'] at t2
  exact hW.inj o o' ob1 ob2 (by simpa [E',n1] using k1) (by simpa [E',n2] using k2) hoo (by simpa [E',n1] using t1) (by simpa [E',n2] using t2)
 ·show (if o=s.hp.length then some ob else E.H o)=_
  by_cases Ck:o=s.hp.length
  ·subst Ck;rw[if_pos rfl,q_jj (q_ja _),Nat.sub_self,q_jv]
  ·rw[if_neg Ck,hu o hU];rcases q_jo o s.hp.length with h|h
   ·rw[q_jf h]
   ·rw[q_jd h,q_jd (by simp;omega)]
 ·show (if o=s.hp.length then some ob else E.H o)=_;rw[if_neg (show ¬o=s.hp.length from fun h=>hU (by rw[h];exact hn))]
def An3{t ty e:TypeId}{z:SV}{sv xv:Value}{sx x:SV}{eff:Eff}(hW:W w0 own E w)(hu:∀o,U o->E.H o=s.hp[o]?)(hn:sx=.nils->U s.hp.length)(ht:P.underlying t=some (.slice e))(hz:Lb P e=some z)
  (Cf:(cellsOf z).length=P.cellsOf e) (Dw:0<P.cellsOf e) (he:Uq s.hp (P.cellsOf e) (P.bytesOf e) sx x=some eff) (hob:eff.ob) (hs:RelV E sv sx) (hx:RelV E xv x) (Lw:∀o∈Dh sx,U o) (Lx:∀o∈Dh x,U o) :
  ∃v w' E',(Builtin.append_ #[t,t] ty #[sv,xv]).run P w=.ok v w'/\RelV E' v eff.val/\Step U w0 own E E' w' eff.hp/\w.heap.size<=w'.heap.size/\eff.as:=by
 obtain⟨i,zv,hi,Hh,Jm,Cu⟩:=Sf (m:=E.m) hz;have Mp:=Aci hi;have Kk:P.bytesOf e=i.bytes:=by simp[Program.bytesOf,hi]
 obtain⟨zs,y1,y2,y3,y4,y5⟩:=Ld (.rep _ _ Cu:RelV E zv z) (Lm (m:=E.m) Jm).2.2;have Zj:zv.cells.size=i.size:=by rw[y1];simp;omega
 have Rv:∀v∈zv.cells.toList,v.oneCell'=true:=by rw[y1];simpa using y3
 simp only[Uq] at he;split at he;rotate_left
 ·cases he
 rename_i xs Ic;obtain⟨A,c,rfl,Ft,Ake⟩:=Ass (s:=s) hW hu hx Lx Ic;cases sx with
 |nils=>
  simp only[q_b] at he;subst he;obtain⟨Ri,Jv⟩:=hob;cases hs.closed_rep rfl with
  |nils=>
  rcases Ake with rfl|⟨b,off,news,rfl,hnl,Mv,Jl,Ow⟩
  ·obtain⟨E',a1,a2⟩:=Ams (s:=s) hW hu (hn rfl) (P.cellsOf e);exact⟨_,_,E',Afu (P:=P) (w:=w) (ty:=ty) ht hi none A 0 0 c (q_ja _),.osl _ _ _ _ _ _ _ _ a2 (q_ja _) ⟨rfl,q_ja _,fun h=>by simp at h⟩ (fun _=>⟨by simp,.inr rfl⟩),a1,q_ja _,trivial⟩
  by_cases Dj:xs.length=0
  ·have:xs=[]:=q_ky.1 Dj;subst this;obtain⟨E',a1,a2⟩:=Ams (s:=s) hW hu (hn rfl) (P.cellsOf e);exact⟨_,_,E',Afu (P:=P) (w:=w) (ty:=ty) ht hi none _ 0 0 c (q_ja _),.osl _ _ _ _ _ _ _ _ a2 (q_ja _) ⟨rfl,q_ja _,fun h=>by simp at h⟩ (fun _=>⟨by simp,.inr rfl⟩),a1,q_ja _,trivial⟩
  have hr:=run_append_nil (P:=P) w t ty e i zv ht hi Hh ⟨b,off,none⟩ xs.length c news (by rw[hnl,Mp]) (fun j v hv=>by rw[Mk];exact Mv j v hv) (by omega) (by omega) (by rw[<-Kk];omega);have Hz:=grownCap_ge w xs.length 0 e;obtain⟨g1,g2⟩:=Aip (E:=E) (sz:=P.cellsOf e) (z:=zv.cells) (olds:=[]) (news:=news) (oe:=[]) (ne:=xs) (q:=grownCap w xs.length 0 e-xs.length) Rv (by omega) Dw (by simp) Ft (by simp) hnl (by simp) Jl (by simp) Ow;simp only[Array.empty_append,q_km] at g1 g2;have Rt:(news.toArray++Builtin.zeroCells zv.cells (grownCap w xs.length 0 e-xs.length)).size=grownCap w xs.length 0 e*P.cellsOf e:=by
   rw[Array.size_append,size_zeroCells,Zj,List.size_toArray,hnl,Mp,<-Nat.add_mul];congr 1;omega
  generalize news.toArray++Builtin.zeroCells zv.cells (grownCap w xs.length 0 e-xs.length)=c' at hr g1 g2 Rt;obtain⟨E',a1,a2,a3,a4⟩:=Abm (s:=s) hW.drew hu (hn rfl) c' e { box:=false,sz:=P.cellsOf e,els:=xs,frz:=0,gen:=0,cl:=true }
   Ft (Nat.zero_le _) (by rw[Rt];exact q_jy _ Hz) (by simp) Jv g1 (fun k v x hv hx=>.rep v x (g2 k v x hv hx)) (fun _=>g2)
  refine⟨_,_,E',hr,?_,a1,by simp,trivial⟩;refine .osl _ _ _ _ _ _ _ _ a2 (q_ja _) ⟨rfl,Hz,fun _=>⟨_,_,rfl⟩⟩ (fun _=>⟨by simp,.inl ⟨by simp[a3],?_⟩⟩);rw[a4,Rt,q_jg];exact q_ja _
 |osl o g off len=>
  simp only at he;have hU:=Lw o (by simp[Dh]);cases hs with
  |rep _ _ hr=>cases hr
  |osl _ _ _ _ B n cap ob ho hg hnc Yc=>
  have Jw:=fun (h:ob.gen=g)=>And.intro hnc.1 (And.intro hnc.2.1 (Yc h))
  have Ja:s.hp[o]?=some ob:=by rw[<-hu o hU];exact ho
  rw[Ja] at he;simp only at he;split at he;rotate_left
  ·cases he
  rename_i hcond;obtain⟨hb,Gk,Aak,rfl⟩:=hcond;simp only[q_b] at he;subst he;obtain⟨Bl,Ri,Jv⟩:=hob;obtain⟨rfl,In,Ew,hB⟩:=Jw Gk;have idle:∀A':Option Addr,xs=[]->∃v w' E',(Builtin.append_ #[t,t] ty #[.slice B n cap,.slice A' xs.length c]).run P w=.ok v w'/\RelV E' v (.osl o (g+1) 0 (n+xs.length)) /\
    Step U w0 own E E' w' (s.hp.set o { ob with els:=ob.els++xs,frz:=ob.els.length,gen:=g+1 })/\w.heap.size<=w'.heap.size/\True:=by
   intro A' h0;subst h0;obtain⟨E',a1,a2,a3,a4,a5⟩:=An1 (P:=P) (ty:=ty) (A:=A') (c:=c) hW ho ht hi Gk In Ew hB;simp only[List.length_nil,q_jp,q_k];exact⟨_,_,E',a1,a2,Acc (s:=s) hu hU Ja a3 a4 a5,q_ja _,trivial⟩
  rcases Ake with h0|⟨b,off,news,rfl,hnl,Mv,Jl,Ow⟩
  ·exact idle A h0
  ·rcases Nat.eq_zero_or_pos xs.length with hx0|hxpos
   ·exact idle _ (List.eq_nil_of_length_eq_zero hx0)
   ·by_cases Vy:n+xs.length<=cap
    ·have Nr:0<cap:=by omega
     rcases hB with⟨rfl,Ou⟩|h0
     rotate_left
     ·omega
     obtain⟨w',E',a1,a2,a3,a4,a5,a6⟩:=An2 (P:=P) (ty:=ty) (c:=c) hW ho ht hi Gk hb (by omega) (by omega) Bl Ou Vy Nr Jv (by rw[Aak];exact Ft) (by rw[Aak];exact hnl) Mv Jl Ow;exact⟨_,w',E',a1,a2,Acc (s:=s) hu hU Ja a3 a4 a6,a5,trivial⟩
    ·obtain⟨v,w',E',a1,a2,a3,a4,a5,a6⟩:=Anz (P:=P) (ty:=ty) (c:=c) hW ho ht hi Hh Gk Zj Rv hb (by omega) (by omega) Bl In hB (by omega) Jv (by rw[<-Kk];exact Ri) (by rw[Aak];exact Ft) (by rw[Aak];exact hnl) Mv Jl Ow;exact⟨v,w',E',a1,a2,Acc (s:=s) hu hU Ja a3 a4 a6,a5,trivial⟩
 |_=>simp at he
end
section
variable{P:Program}{U:Nat->Prop}{w0:World}{own:Nat->Prop}{E:Env}{w:World}{s:St}{a:Act}
def Avo(off:Nat):∀(l:List Value) (k:Nat) (cs:Array Value),off+k+l.length<=cs.size->((l.zipIdx k).foldl (fun cs (x:Value×Nat)=>cs.setIfInBounds (off+x.2) x.1) cs).size=cs.size /\
  ∀m,((l.zipIdx k).foldl (fun cs (x:Value×Nat)=>cs.setIfInBounds (off+x.2) x.1) cs)[m]?=if off+k<=m/\m<off+k+l.length then l[m-(off+k)]? else cs[m]?:=by
 intro l
 induction l with
 |nil=>intro k cs _;exact⟨rfl,fun m=>by rw[if_neg (by simp only[List.length_nil];omega)];rfl⟩
 |cons v l ih=>
  intro k cs h;simp only[q_jk] at h;obtain⟨h1,h2⟩:=ih (k+1) (cs.setIfInBounds (off+k) v) (by simp;omega);simp only[List.zipIdx_cons,List.foldl_cons];refine⟨by rw[h1];simp,fun m=>?_⟩;rw[h2 m]
  by_cases hm:m=off+k
  ·subst hm;rw[if_neg (by omega),if_pos (by simp),Array.getElem?_setIfInBounds_self_of_lt (by omega)];simp
  ·by_cases Dz:off+(k+1)<=m/\m<off+(k+1)+l.length
   ·rw[if_pos Dz,if_pos (by simp;omega)];rw[show m-(off+k)=(m-(off+(k+1)))+1 by omega];simp
   ·rw[if_neg Dz,if_neg (by simp;omega),Array.getElem?_setIfInBounds_ne (by omega)]
def Aih(off:Nat)(vs:List Value)(cs:Array Value)(h:off+vs.length<=cs.size):(vs.toArray.zipIdx.foldl (fun cs (x:Value×Nat)=>cs.setIfInBounds (off+x.2) x.1) cs).size=cs.size /\
  ∀m,(vs.toArray.zipIdx.foldl (fun cs (x:Value×Nat)=>cs.setIfInBounds (off+x.2) x.1) cs)[m]?=if off<=m/\m<off+vs.length then vs[m-off]? else cs[m]?:=by
 have:=Avo off vs 0 cs (by omega);rw[<-Array.foldl_toList,Array.toList_zipIdx];simpa using this
def Aic{t:TypeId}{fs:Array Field}{places:Array (Nat×Nat)}(hp:∀(i:Nat) (f:Field),fs[i]?=some f->places[i]?=some (f.offset,P.cellsOf f.type))(Mt:∀(i:Nat) (f:Field),Pq P t i=some f->fs[i]?=some f)(R:Value->SV->Prop) :
  ∀(parts:List (Nat×Operand)) (ps:List (Nat×Nat×AX)) (cs:Array Value) (cells:List SV),Uj P t parts=some ps->cs.size=cells.length->(∀p∈ps,p.1+p.2.1<=cells.length/\0<p.2.1) ->
   (∀(k:Nat) (v:Value) (x:SV),cs[k]?=some v->cells[k]?=some x->R v x)->(∀v∈cs.toList,v.oneCell'=true)->Ub (ps.map fun p=>(p.1,p.2.1,s.get p.2.2)) ->
   (∀q∈parts,∀ax,trX q.2=some ax->∃vs:List Value,(a.eval q.2).cells=vs.toArray/\vs.length=(cellsOf (s.get ax)).length/\(∀u∈vs,u.oneCell'=true)/\∀(j:Nat) (u:Value) (x:SV),vs[j]?=some u->(cellsOf (s.get ax))[j]?=some x->R u x) ->
   ∃cs',Instr.fill (places[·]?) cs (parts.map fun q=>(q.1,a.eval q.2))=some cs'/\cs'.size=(fill cells (ps.map fun p=>(p.1,p.2.1,s.get p.2.2))).length/\(∀v∈cs'.toList,v.oneCell'=true) /\
    ∀(k:Nat) (v:Value) (x:SV),cs'[k]?=some v->(fill cells (ps.map fun p=>(p.1,p.2.1,s.get p.2.2)))[k]?=some x->R v x:=by
 intro parts
 induction parts with
 |nil=>
  intro ps cs cells htr Cf Qd hR Fi hok hx;simp only[Uj,q_b] at htr;subst htr;exact⟨cs,rfl,Cf,Fi,hR⟩
 |cons q parts ih=>
  obtain⟨i,x⟩:=q;intro ps cs cells htr Cf Qd hR Fi hok hx;simp only[Uj,q_c,q_a,q_d,q_b] at htr;obtain⟨f,hf,ax,Bb,ps',Aem,rfl⟩:=htr;have Fo:=hp i f (Mt i f hf);obtain⟨h1,h2⟩:=Qd _ (List.mem_cons_self ..);simp only at h1 h2;simp only[q_h,Ub] at hok;obtain⟨o1,o2,o3⟩:=hok;obtain⟨vs,b1,b2,b3,b4⟩:=hx (i,x) (List.mem_cons_self ..) ax Bb;simp only at b1;have hvl:vs.length=P.cellsOf f.type:=by omega
  obtain⟨f1,f2⟩:=Aih f.offset vs cs (by omega);have hspl:∀k,(Dm cells.length (P.cellsOf f.type) f.offset cells (cellsOf (s.get ax)))[k]?=if f.offset<=k/\k<f.offset+P.cellsOf f.type then (cellsOf (s.get ax))[k-f.offset]? else cells[k]?:=by
   intro k;rw[Abl rfl h1 o2 h2,Tz _ _ _ (by omega),o2]
  have Bl:=Af0 (cells:=cells) rfl h1 o2 h2;obtain⟨cs',c1,c2,c3,c4⟩:=ih ps' (vs.toArray.zipIdx.foldl (fun cs (x:Value×Nat)=>cs.setIfInBounds (f.offset+x.2) x.1) cs) (Dm cells.length (P.cellsOf f.type) f.offset cells (cellsOf (s.get ax))) Aem (by rw[f1,Bl,Cf])
   (fun p hp=>by rw[Bl];exact Qd p (List.mem_cons_of_mem _ hp))
   (fun k v y hv hy=>by
    rw[f2 k] at hv;rw[hspl k] at hy;rw[hvl] at hv;split at hv
    ·rename_i Dz;rw[if_pos Dz] at hy;exact b4 _ v y hv hy
    ·rename_i Dz;rw[if_neg Dz] at hy;exact hR k v y hv hy)
   (fun v hv=>by
    obtain⟨k,hk⟩:=q_jw hv;have hk':=f2 k;rw[Array.getElem?_toList] at hk;rw[hk] at hk';split at hk'
    ·exact b3 v (q_jb hk'.symm)
    ·exact Fi v (q_jb (by rw[Array.getElem?_toList];exact hk'.symm)))
   o3 (fun q hq=>hx q (List.mem_cons_of_mem _ hq))
  refine⟨cs',?_,c2,c3,c4⟩;simp only[q_h,Instr.fill,Fo,b1,List.size_toArray];rw[if_neg (by simp only[q_kw,q_jt,not_or];omega)];exact c1
def A0k{fs:Array Field}(h:fs.toList.all (fun f=>(P.info? f.type).isSome)=true)(w:World) :
  ∃places:Array (Nat×Nat),(fs.mapM (fun f=>do pure (f.offset,<-sizeOf f.type):Field->Sem (Nat×Nat))).run P w=.ok places w/\∀(i:Nat) (f:Field),fs[i]?=some f->places[i]?=some (f.offset,P.cellsOf f.type):=by
 obtain⟨l⟩:=fs;have key:∀l:List Field,l.all (fun f=>(P.info? f.type).isSome)=true->(l.mapM (fun f=>do pure (f.offset,<-sizeOf f.type):Field->Sem (Nat×Nat))).run P w=.ok (l.map fun f=>(f.offset,P.cellsOf f.type)) w:=by
  intro l
  induction l with
  |nil=>intro _;rfl
  |cons f l ih=>
   intro h;simp only[List.all_cons,q_jl] at h;obtain⟨i,hi⟩:=q_ka.1 h.1;have h1:=run_sizeOf (P:=P) w hi;simp only[List.mapM_cons,Sem.run_bind,h1,Result.andThen_ok,Sem.run_pure,ih h.2,q_h]
 refine⟨(l.map fun f=>(f.offset,P.cellsOf f.type)).toArray,?_,fun i f hf=>?_⟩
 ·have:=key l (by simpa using h);rw[List.mapM_toArray,Sem.run_map,this];rfl
 ·simp only[List.getElem?_toArray] at hf;simp[hf]
end
section
variable{P:Program}{U:Nat->Prop}{w0:World}{own:Nat->Prop}{E:Env}{w:World}{s:St}{a:Act}
def Apn{hp hp':List Ob}{s s':SV}(h:Dn hp s=some (s',hp')):s'.ok=true/\s'.closed=true:=by
 cases s with
 |osl o g off len=>
  simp only[Dn] at h;split at h;rotate_left
  ·cases h
  split at h;rotate_left
  ·cases h
  cases h;exact⟨rfl,rfl⟩
 |agg b l=>cases b<;>simp[Dn] at h;rw[<-h.1];exact⟨rfl,rfl⟩
 |J=>simp[Dn] at h
 |undef=>simp[Dn] at h
 |ref _ _ _ _=>simp[Dn] at h
 |tup _=>simp[Dn] at h
 |_=>simp only[Dn,q_b,Prod.mk.injEq] at h;rw[<-h.1];exact⟨rfl,rfl⟩
def n9{hp hp':List Ob}{s s':SV}(h:Dl hp s=some (s',hp')):s'.ok=true/\s'.closed=true:=by
 have plain:Dl hp s=Dn hp s->s'.ok=true/\s'.closed=true:=fun e=>Apn (e ▸ h)
 cases s with
 |agg b l=>
  cases b with
  |true=>exact plain rfl
  |false=>
   simp only[Dl] at h;split at h
   ·cases h;exact⟨rfl,rfl⟩
   ·cases h
 |ref o g e c=>
  simp only[Dl] at h;split at h;rotate_left
  ·cases h
  split at h;rotate_left
  ·cases h
  split at h
  ·cases h;exact⟨rfl,rfl⟩
  ·split at h
   ·cases h;exact⟨rfl,rfl⟩
   ·cases h
 |_=>exact plain rfl
def Aha:∀{l l':List SV} {E:Env} {hp hp':List Ob} {vs:List Value},W w0 own E w->(∀o,U o->E.H o=hp[o]?) ->
  Eo hp l=some (l',hp')->vs.length=l.length->(∀(j:Nat) (v:Value) (x:SV),vs[j]?=some v->l[j]?=some x->RelV E v x)->(∀o∈Hi hp l,U o) ->
  hp'.length=hp.length/\l'.length=l.length/\∃E',Step U w0 own E E' w hp'/\(∀(j:Nat) (v:Value) (x:SV),vs[j]?=some v->l'[j]?=some x->Rep E'.m v x):=by
 intro l
 induction l with
 |nil=>
  intro l' E hp hp' vs hW hu hc hl hr hi;simp only[Eo,q_b,Prod.mk.injEq] at hc;obtain⟨rfl,rfl⟩:=hc;exact⟨rfl,rfl,E,Step.refl hW hu,by simp⟩
 |cons s l ih=>
  intro l' E hp hp' vs hW hu hc hl hr hi;cases vs with
  |nil=>simp at hl
  |cons v vs=>
   simp only[Eo] at hc;split at hc;rotate_left
   ·cases hc
   rename_i c' h1 Iz;split at hc;rotate_left
   ·cases hc
   rename_i r' h2 Ij;cases hc;simp only[Hi,Iz] at hi;obtain⟨e1,E1,st1,rep1,b1,t1⟩:=Xb hW hu Iz (hr 0 v s rfl rfl) (fun o ho=>hi o (List.mem_append_left _ ho));obtain⟨e2,e3,E2,st2,rep2⟩:=ih st1.wo st1.on Ij (by simpa using hl) (fun j v' x hv hx=>(hr (j+1) v' x (by simpa using hv) (by simpa using hx)).mono st1.ext) (fun o ho=>hi o (List.mem_append_right _ ho));refine⟨e2.trans e1,by simp[e3],E2,st1.trans st2,fun j v' x hv hx=>?_⟩;cases j with
   |zero=>
    simp only[q_jv,q_b] at hv hx;subst hv;subst hx;exact rep1.mono st2.ext.m
   |succ j=>exact rep2 j v' x (by simpa using hv) (by simpa using hx)
def n8{l:List SV}:∀{hp hp':List Ob} {rows:GV},Sk hp l=some (rows,hp')->∃l',Eo hp l=some (l',hp')/\rows=l'.map cellsOf/\∀x∈l',x.ok=true/\x.closed=true:=by
 induction l with
 |nil=>intro hp hp' rows h;simp only[Sk,q_b,Prod.mk.injEq] at h;obtain⟨rfl,rfl⟩:=h;exact⟨[],rfl,rfl,by simp⟩
 |cons c l ih=>
  intro hp hp' rows h;simp only[Sk] at h;split at h;rotate_left
  ·cases h
  rename_i c' h1 Iz;split at h;rotate_left
  ·cases h
  rename_i r' h2 Ij;cases h;obtain⟨l',e1,e2,e3⟩:=ih Ij;refine⟨c'::l',by simp[Eo,Iz,e1],by simp[e2],fun x hx=>?_⟩;rcases q_kb.1 hx with rfl|hx
  ·exact n9 Iz
  ·exact e3 x hx
def Aib{sz:Nat}(m:Mem)(Cf:0<sz):∀(parts:List (Nat×Value)) (k:Nat) (xs:List SV) (cs:Array Value),parts.length=xs.length->(∀(j:Nat) q,parts[j]?=some q->q.1=k+j)->(k+parts.length)*sz<=cs.size ->
  (∀x∈xs,x.ok=true/\x.closed=true/\(cellsOf x).length=sz)->(∀(j:Nat) q x,parts[j]?=some q->xs[j]?=some x->Rep m q.2 x)->(∀v∈cs.toList,v.oneCell'=true) ->
  ∃cs',Instr.fill (fun i=>some (i*sz,sz)) cs parts=some cs'/\cs'.size=cs.size/\(∀v∈cs'.toList,v.oneCell'=true)/\(∀i,i<k*sz->cs'[i]?=cs[i]?) /\
   ∀(i:Nat) (v:Value) (x:SV),cs'[k*sz+i]?=some v->(xs.map cellsOf).flatten[i]?=some x->Rep m v x:=by
 intro parts
 induction parts with
 |nil=>
  intro k xs cs hl hk Ew hx hr Fi;have:xs=[]:=List.eq_nil_of_length_eq_zero (by simpa using hl.symm);subst this;exact⟨cs,rfl,rfl,Fi,fun _ _=>rfl,by simp⟩
 |cons q parts ih=>
  intro k xs cs hl hk Ew hx hr Fi;cases xs with
  |nil=>simp at hl
  |cons x xs=>
   obtain⟨i,v⟩:=q;have hi:i=k:=by simpa using hk 0 (i,v) rfl
   subst hi;obtain⟨x1,x2,x3⟩:=hx x (List.mem_cons_self ..);have Kr:=hr 0 (i,v) x rfl rfl;obtain⟨vs,b1,b2,b3,b4,b5⟩:=Ld (E:={ m:=m,m0:=m,H:=fun _=>none,β:=fun _=>0,t:=fun _=>0 }) (.rep v x Kr) x1;have hvl:vs.length=sz:=by omega
   have Ma:(i+1)*sz<=(i+(parts.length+1))*sz:=q_jy _ (by omega);simp only[q_jk] at Ew;have Bc:(i+1)*sz=i*sz+sz:=Nat.succ_mul i sz;obtain⟨f1,f2⟩:=Aih (i*sz) vs cs (by omega);obtain⟨cs',c1,c2,c3,c4,c5⟩:=ih (i+1) xs (vs.toArray.zipIdx.foldl (fun cs (x:Value×Nat)=>cs.setIfInBounds (i*sz+x.2) x.1) cs) (by simpa using hl)
    (fun j q hq=>by have:=hk (j+1) q (by simpa using hq);omega) (by rw[f1];rw[show i+1+parts.length=i+(parts.length+1) by omega];exact Ew)
    (fun y hy=>hx y (List.mem_cons_of_mem _ hy)) (fun j q y hq hy=>hr (j+1) q y (by simpa using hq) (by simpa using hy))
    (fun u hu=>by
     obtain⟨k',hk'⟩:=q_jw hu;have h2:=f2 k';rw[Array.getElem?_toList] at hk';rw[hk'] at h2;split at h2
     ·exact b3 u (q_jb h2.symm)
     ·exact Fi u (q_jb (by rw[Array.getElem?_toList];exact h2.symm)))
   refine⟨cs',?_,by rw[c2,f1],c3,fun j hj=>?_,fun j u y hu hy=>?_⟩
   ·simp only[Instr.fill,b1,List.size_toArray];rw[if_neg (by simp only[q_kw,q_jt,not_or];omega)];exact c1
   ·rw[c4 j (by omega),f2 j,if_neg (by omega)]
   ·simp only[q_h,List.flatten_cons] at hy
    by_cases hj:j<sz
    ·rw[q_jf (by omega)] at hy;rw[c4 _ (by omega),f2,if_pos (by omega),show i*sz+j-i*sz=j by omega] at hu;exact b5 x2 j u y hu hy
    ·rw[q_jj (by omega),x3] at hy;refine c5 (j-sz) u y ?_ hy;rw[Bc,show i*sz+sz+(j-sz)=i*sz+j by omega];exact hu
def Aft{l:List (Nat×Operand)}:∀{k:Nat} {xs:List AX},Uk k l=some xs->xs.length=l.length/\∀(j:Nat) q,l[j]?=some q->q.1=k+j/\∃ax,xs[j]?=some ax/\trX q.2=some ax:=by
 induction l with
 |nil=>intro k xs h;simp only[Uk,q_b] at h;subst h;exact⟨rfl,by simp⟩
 |cons q l ih=>
  intro k xs h;obtain⟨i,x⟩:=q;simp only[Uk] at h;split at h;rotate_left
  ·cases h
  rename_i hik;simp only[q_c,q_a,q_d,q_b] at h;obtain⟨ax,Bb,r,hr,rfl⟩:=h;obtain⟨h1,h2⟩:=ih hr;refine⟨by simp[h1],fun j q hq=>?_⟩;cases j with
  |zero=>
   simp only[q_jv,q_b] at hq;subst hq;exact⟨by simp[hik],ax,rfl,Bb⟩
  |succ j=>
   obtain⟨g1,ax',g2,g3⟩:=h2 j q (by simpa using hq);exact⟨by omega,ax',by simpa using g2,g3⟩
def Aor{t e:TypeId}{z:SV}{len:Nat}{parts:Array (Nat×Operand)}{xs:List AX}{rows:GV}{h:List Ob}(hW:W w0 own E w)(hu:∀o,U o->E.H o=s.hp[o]?)(hn:U s.hp.length)(ht:P.underlying t=some (.slice e))(hz:Lb P e=some z)
  (Dw:0<P.cellsOf e) (Hs:(cellsOf z).length=P.cellsOf e) (Cv:Uk 0 parts.toList=some xs) (Eg:xs.length=len) (hsmall:len*P.cellsOf e<=2 ^ 24) (hc:Sk s.hp (xs.map s.get)=some (rows,h)) (hob:∀r∈rows,r.length=P.cellsOf e)
  (hx:∀q∈parts.toList,∀ax,trX q.2=some ax->RelV E (a.eval q.2) (s.get ax)) (hi:∀o∈Hi s.hp (xs.map s.get),U o) :
  ∃v w' E',(Instr.buildSlice t len (parts.map fun (i,x)=>(i,a.eval x))).run P w=.ok v w'/\RelV E' v (.osl h.length 0 0 rows.length) /\
   Step U w0 own E E' w' (h++[{ box:=false,sz:=P.cellsOf e,els:=rows,frz:=0,gen:=0,cl:=true }])/\w.heap.size<=w'.heap.size:=by
 obtain⟨l',Hn,rfl,hok⟩:=n8 hc;obtain⟨r1,r2⟩:=Aft Cv;obtain⟨i,zv,Jb,Hh,Jm,Cu⟩:=Sf (m:=E.m) hz;have Mp:=Aci Jb;obtain⟨zs,y1,y2,y3,y4,y5⟩:=Ld (.rep _ _ Cu:RelV E zv z) (Lm (m:=E.m) Jm).2.2;have Zj:zv.cells.size=P.cellsOf e:=by rw[y1];simp;omega
 obtain⟨q1,q2,E1,st1,rep1⟩:=Aha (vs:=parts.toList.map fun q=>a.eval q.2) hW hu Hn (by simp[r1]) (fun j v x hv Dd=>by
  rw[q_ji] at hv Dd;cases hq:parts.toList[j]? with
  |none=>rw[hq] at hv;cases hv
  |some q=>
   rw[hq] at hv;simp only[q_jh,q_b] at hv;obtain⟨_,ax,g2,g3⟩:=r2 j q hq;rw[g2] at Dd;simp only[q_jh,q_b] at Dd;subst hv;subst Dd;exact hx q (q_jb hq) ax g3) hi
 have Jy:l'.length=len:=by rw[q2];simp[Eg]
 have hbase:∀v∈(Array.map (fun x=>zv.cells[x % zv.cells.size]!) (Array.range (len*i.size))).toList,v.oneCell'=true:=by
  intro v hv;obtain⟨k,hk⟩:=q_jw hv;exact (Aa0 (z:=zv.cells) (n:=len*i.size) (by rw[y1];simpa using y3) (by omega) k v (by rw[Array.getElem?_toList] at hk;exact hk)).1
 obtain⟨cs',c1,c2,c3,c4,c5⟩:=Aib E1.m Dw (parts.toList.map fun q=>(q.1,a.eval q.2)) 0 l' ((Array.range (len*i.size)).map (zv.cells[· % zv.cells.size]!)) (by simp[Jy,<-r1,Eg])
  (fun j q hq=>by
   rw[q_ji] at hq;cases Mw:parts.toList[j]? with
   |none=>rw[Mw] at hq;cases hq
   |some q'=>
    rw[Mw] at hq;simp only[q_jh,q_b] at hq;subst hq;exact (r2 j q' Mw).1)
  (by simp[<-r1,Eg,Mp])
  (fun x hx=>⟨(hok x hx).1,(hok x hx).2,hob _ (List.mem_map_of_mem hx)⟩)
  (fun j q x hq Dd=>by
   rw[q_ji] at hq;cases Mw:parts.toList[j]? with
   |none=>rw[Mw] at hq;cases hq
   |some q'=>
    rw[Mw] at hq;simp only[q_jh,q_b] at hq;subst hq;exact rep1 j _ x (by rw[q_ji,Mw];rfl) Dd)
  hbase
 have Hr:(Instr.buildSlice t len (parts.map fun (i,x)=>(i,a.eval x))).run P w=.ok (.slice (some ⟨w.heap.size,0,none⟩) len len) (w.alloc (.cells cs' e)):=by
  have Qh:¬(len*i.size > 2 ^ 24):=by rw[<-Mp];omega
  have Fo:(parts.map fun (i,x)=>(i,a.eval x)).toList=parts.toList.map fun q=>(q.1,a.eval q.2):=by rw[Array.toList_map]
  rw[Mp] at c1;rcases Nat.eq_zero_or_pos len with h0|h0
  ·subst h0;have Yq:parts.toList=[]:=List.eq_nil_of_length_eq_zero (by omega);rw[Yq] at c1;simp only[q_i,Instr.fill,q_b] at c1;have hcs0:cs'=#[]:=by rw[<-c1];simp
   have Vu:parts=#[]:=Array.ext' (by simpa using Yq);rw[Vu,hcs0];simp[Instr.buildSlice,run_underlying ht,sizeOf,typeInfo,Jb,Instr.fill,newRow];rw[Array.range_zero',Array.map_empty]
  ·have Kp:¬(len*i.size=0):=by
    intro h;rcases Nat.mul_eq_zero.1 h with h|h<;>omega
   simp only[Instr.buildSlice,Sem.run_bind,run_underlying ht,Result.andThen_ok,run_sizeOf w Jb,Mp,if_neg Qh,if_neg Kp,zeroValue,run_typeInfo w Jb,Hh,Sem.run_pure,Fo,c1,newRow,run_newObj];rfl
 have hnl:h.length=s.hp.length:=q1;have Vr:U ({ s with hp:=h }:St).hp.length:=by show U h.length;rw[hnl];exact hn
 obtain⟨E',a1,a2,a3,a4⟩:=Abm (s:={ s with hp:=h }) st1.wo st1.on Vr cs' e { box:=false,sz:=P.cellsOf e,els:=l'.map cellsOf,frz:=0,gen:=0,cl:=true }
  hob (Nat.zero_le _) (by rw[c2];simp[Jy,Mp]) (by simp) (by
   show (l'.map cellsOf).length<=_;rw[q_g,Jy];have:len*1<=len*P.cellsOf e:=Nat.mul_le_mul_left _ Dw;omega)
  (fun k v hv=>c3 v (q_jb (by rw[Array.getElem?_toList];exact hv))) (fun k v x hv hx=>.rep v x (c5 k v x (by rw[Nat.zero_mul,q_jg];exact hv) hx)) (fun _ k v x hv hx=>c5 k v x (by rw[Nat.zero_mul,q_jg];exact hv) hx)
 refine⟨_,_,E',Hr,?_,st1.trans a1,by simp⟩;refine .osl _ _ _ _ _ _ _ _ a2 (q_ja _) ⟨by simp[Jy],by simp[Jy],fun _=>⟨_,_,rfl⟩⟩ (fun _=>⟨by simp,.inl ⟨by rw[a3];simp,?_⟩⟩);rw[a4,c2];simp[Mp]
end
section
variable{P:Program}{U:Nat->Prop}{w0:World}{own:Nat->Prop}{E:Env}{w:World}{s:St}{a:Act}
def Lk{v:Value}{k:IntKind}{n:Int}(h:RelV E v (.int k n)):v=.int k n:=by
 cases h.closed_rep rfl with
 |int=>rfl
def Uu{v:Value}{b:Bool}(h:RelV E v (.bool b)):v=.bool b:=by
 cases h.closed_rep rfl with
 |bool=>rfl
def Aig{v:Value}{k:FloatKind}{n:Nat}(h:RelV E v (.float k n)):v=.float k n:=by
 cases h.closed_rep rfl with
 |float=>rfl
def Avn{v:Value}{f:Nat}(h:RelV E v (.fn f)):v=.func (.func f) #[] #[]:=by
 cases h.closed_rep rfl with
 |fn=>rfl
def Zz{v:Value}{b:ByteArray}(h:RelV E v (.str b)):v=.string b:=by
 cases h.closed_rep rfl with
 |str=>rfl
def Aa2{v:Value}(h:RelV E v .nilp):v=.pointer none:=by
 cases h.closed_rep rfl with
 |nilp=>rfl
def All{v:Value}(h:RelV E v .nils):v=.slice none 0 0:=by
 cases h.closed_rep rfl with
 |nils=>rfl
def Agz{ox:Option Operand}{oax:Option AX}{d y:Nat}{p:Prop}{n:Nat}{code:BoundsCode}(ht:Mi ox=some oax)(hb:Pl s oax d=some (p,n))(hp:p)(hx:∀x,ox=some x->∀ax,trX x=some ax->RelV E (a.eval x) (s.get ax))(hd:d<=y) :
  n<=d/\((ox=none/\n=d)\/∃v,ox.map a.eval=some v/\(Instr.sliceBound v y code).run P w=.ok n w):=by
 cases ox with
 |none=>
  simp only[Mi,q_b] at ht;subst ht;simp only[Pl,q_b,Prod.mk.injEq] at hb;exact⟨by omega,.inl ⟨rfl,hb.2.symm⟩⟩
 |some x=>
  simp only[Mi,q_e] at ht;obtain⟨ax,Bb,rfl⟩:=ht;simp only[Pl] at hb;split at hb
  ·rename_i k i hg;simp only[q_b,Prod.mk.injEq] at hb;obtain⟨rfl,rfl⟩:=hb;have hv:=hx x rfl ax Bb;rw[hg] at hv;have:=Lk hv;refine⟨by omega,.inr ⟨_,rfl,?_⟩⟩;rw[this];simp[Instr.sliceBound,asIntOf,hp.1,show i<=(y:Int) by omega]
  ·cases hb
def Amg{t e:TypeId}{lo hi:Option Value}{A:Option Addr}{len cap h l:Nat}(ht:P.underlying t=some (.slice e))(Jb:(P.info? e).isSome)(hh:(hi=none/\h=len)\/∃v,hi=some v/\(Instr.sliceBound v cap .sliceAcap).run P w=.ok h w)
  (hl:(lo=none/\l=0)\/∃v,lo=some v/\(Instr.sliceBound v h .sliceB).run P w=.ok l w) :
  (Instr.sliceAt t (.slice A len cap) lo hi none).run P w=.ok (.slice (if cap=l then A else A.map (·.add (l*P.cellsOf e))) (h-l) (cap-l)) w:=by
 obtain⟨i,Lw⟩:=q_ka.1 Jb;have Cf:=run_sizeOf (P:=P) w Lw;rcases hh with⟨rfl,rfl⟩|⟨v,rfl,hv⟩<;>rcases hl with⟨rfl,rfl⟩|⟨u,rfl,hu⟩ <;>
  simp[Instr.sliceAt,run_underlying ht,Instr.slice,Instr.sliceBounds,Cf, *]
def A2l{t:TypeId}{lo hi:Option Value}{b:ByteArray}{h l:Nat}(ht:P.underlying t=some .string)(hh:(hi=none/\h=b.size)\/∃v,hi=some v/\(Instr.sliceBound v b.size .sliceAlen).run P w=.ok h w)
  (hl:(lo=none/\l=0)\/∃v,lo=some v/\(Instr.sliceBound v h .sliceB).run P w=.ok l w) :
  (Instr.sliceAt t (.string b) lo hi none).run P w=.ok (.string (b.extract l h)) w:=by
 rcases hh with⟨rfl,rfl⟩|⟨v,rfl,hv⟩<;>rcases hl with⟨rfl,rfl⟩|⟨u,rfl,hu⟩ <;>
  simp[Instr.sliceAt,run_underlying ht,Instr.slice,Instr.sliceBounds, *]
def Ace{lo hi:Option Operand}{alo ahi:Option AX}{d y:Nat}{p q:Prop}{h n:Nat}{c1 c2:BoundsCode}(Jz:Mi lo=some alo)(Qa:Mi hi=some ahi)(hb:Pl s ahi d=some (p,h))(Dy:loB s alo h=some (q,n))(hp:p)(hq:q)
  (Eg:∀y,lo=some y->∀ax,trX y=some ax->RelV E (a.eval y) (s.get ax)) (Zf:∀y,hi=some y->∀ax,trX y=some ax->RelV E (a.eval y) (s.get ax)) (hd:d<=y) :
  h<=d/\n<=h/\((hi.map a.eval=none/\h=d)\/∃v,hi.map a.eval=some v/\(Instr.sliceBound v y c1).run P w=.ok h w)/\((lo.map a.eval=none/\n=0)\/∃v,lo.map a.eval=some v/\(Instr.sliceBound v h c2).run P w=.ok n w):=by
 obtain⟨h1,h2⟩:=Agz (P:=P) (w:=w) (code:=c1) Qa hb hp Zf hd;refine⟨h1,?_⟩;have Vf:(hi.map a.eval=none/\h=d)\/∃v,hi.map a.eval=some v/\(Instr.sliceBound v y c1).run P w=.ok h w:=by
  rcases h2 with⟨rfl,e⟩|h2
  ·exact .inl ⟨rfl,e⟩
  ·exact .inr h2
 cases lo with
 |none=>
  simp only[Mi,q_b] at Jz;subst Jz;simp only[loB,q_b,Prod.mk.injEq] at Dy;obtain⟨_,rfl⟩:=Dy;exact⟨Nat.zero_le _,Vf,.inl ⟨rfl,rfl⟩⟩
 |some x=>
  have hl2:∃ax,alo=some ax:=by
   simp only[Mi,q_e] at Jz;obtain⟨ax,_,rfl⟩:=Jz;exact⟨ax,rfl⟩
  obtain⟨ax,rfl⟩:=hl2;obtain⟨g1,g2⟩:=Agz (P:=P) (w:=w) (code:=c2) (y:=h) Jz Dy hq Eg (q_ja _);rcases g2 with⟨g2,_⟩|g2
  ·cases g2
  ·exact⟨g1,Vf,.inr g2⟩
def A1k{m:Mem}{sz:Nat}{l:GV}{A:Option Addr}{cap h n:Nat}(hr:Rep m (.slice A l.length cap) (.dsl sz l))(hh:h<=l.length)(hn:n<=h) :
  Rep m (.slice (if cap=n then A else A.map (·.add (n*sz))) (h-n) (cap-n)) (.dsl sz ((l.drop n).take (h-n))):=by
 have Bl:((l.drop n).take (h-n)).length=h-n:=by simp;omega
 rcases Nat.eq_zero_or_pos (h-n) with h0|h0
 ·rw[h0,List.take_zero];exact .dsl0 _ _ _
 ·generalize hv:Value.slice A l.length cap=v at hr;cases hr with
  |dsl0=>simp at hh;omega
  |dsl _ _ cap' b off vs g0 g1 g2 g3 g4 g5 g6=>
   injection hv with e1 e2 e3
   subst e1;subst e3;have Hp:=Iu g3;have Ft:∀r∈(l.drop n).take (h-n),r.length=sz:=fun r hr=>g3 r (List.mem_of_mem_drop (List.mem_of_mem_take hr))
   have hfl2:((l.drop n).take (h-n)).flatten=(l.flatten.drop (n*sz)).take ((h-n)*sz):=by
    rw[v6 (sz:=sz) (fun r hr=>g3 r (List.mem_of_mem_drop hr)),u9 g3]
   have Ma:(n+(h-n))*sz<=l.length*sz:=q_jy _ (by omega);rw[Nat.add_mul] at Ma;rw[if_neg (by omega)];simp only[q_jh,Mk];have Jo:∀(j:Nat) (v:Value),((vs.drop (n*sz)).take ((h-n)*sz))[j]?=some v->vs[n*sz+j]?=some v:=by
    intro j v hv;rw[q_jx] at hv;split at hv
    ·exact getElem?_drop_some hv
    ·cases hv
   have:=Rep.dsl (m:=m) sz ((l.drop n).take (h-n)) (cap-n) b (off+n*sz) ((vs.drop (n*sz)).take ((h-n)*sz)) (fun v hv=>g0 v (List.mem_of_mem_drop (List.mem_of_mem_take hv))) (by omega) (by omega) Ft
    (by rw[Iu Ft,Bl];simp only[q_kg,q_kh];omega) (fun j v hv=>by have:=g5 _ v (Jo j v hv);rw[q_ks];exact this) (fun j v x hv hx=>by
     rw[hfl2,q_jx] at hx;split at hx
     ·exact g6 _ v x (Jo j v hv) (getElem?_drop_some hx)
     ·cases hx)
   rw[Bl] at this;exact this
def Amo{t:TypeId}{z:Nat}{xv:Value}{x:SV}{lo hi:Option Operand}{alo ahi:Option AX}{eff:Eff}(hu:∀o,U o->E.H o=s.hp[o]?)(hx:RelV E xv x)(Jz:Mi lo=some alo)(Qa:Mi hi=some ahi)(hs:Mj s z x alo ahi=some eff)(hob:eff.ob)
  (Eg:∀y,lo=some y->∀ax,trX y=some ax->RelV E (a.eval y) (s.get ax)) (Zf:∀y,hi=some y->∀ax,trX y=some ax->RelV E (a.eval y) (s.get ax)) (Lw:∀o∈Dh x,U o)
  (ht:(∃e,P.underlying t=some (.slice e)/\(P.info? e).isSome/\z=P.cellsOf e/\0<z)\/(P.underlying t=some .string/\z=0)) :
  ∃v,(Instr.sliceAt t xv (lo.map a.eval) (hi.map a.eval) none).run P w=.ok v w/\RelV E v eff.val/\eff.hp=s.hp/\eff.as:=by
 cases x with
 |dsl sz l=>
  rcases ht with⟨e,ht,hinf,rfl,hzp⟩|⟨_,rfl⟩
  rotate_left
  ·simp[Mj] at hs
  simp only[Mj] at hs;split at hs
  ·cases hs
  rename_i Dj;have Tn:sz=P.cellsOf e:=by omega
  subst Tn;split at hs;rotate_left
  ·cases hs
  rename_i p h hb;split at hs;rotate_left
  ·cases hs
  rename_i q n Dy;cases hs;obtain⟨hp,hq⟩:=hob;have hr:=hx.closed_rep rfl;have Qg:∃A cap,xv=.slice A l.length cap/\l.length<=cap:=by
   cases hr with
   |dsl0 _ A cap=>exact⟨A,cap,rfl,by simp⟩
   |dsl _ _ cap b off vs g0 g1=>exact⟨_,cap,rfl,g1⟩
  obtain⟨A,cap,rfl,In⟩:=Qg;obtain⟨h1,h2,h3,h4⟩:=Ace (P:=P) (w:=w) (c1:=.sliceAcap) (c2:=.sliceB) Jz Qa hb Dy hp hq Eg Zf In;exact⟨_,Amg ht hinf h3 h4,.rep _ _ (A1k hr h1 h2),rfl,trivial⟩
 |osl o g off len=>
  have hU:=Lw o (by simp[Dh]);rcases ht with⟨e,ht,hinf,rfl,hzp⟩|⟨_,rfl⟩
  rotate_left
  ·simp only[Mj] at hs;split at hs
   ·simp at hs
   ·cases hs
  cases hx with
  |rep _ _ hr=>cases hr
  |osl _ _ _ _ A m cap ob ho hg hnl Jw=>
  simp only[Mj] at hs;rw[<-hu o hU,ho] at hs;simp only at hs;split at hs
  ·cases hs
  rename_i Dj;have Tn:ob.sz=P.cellsOf e:=by omega
  split at hs;rotate_left
  ·cases hs
  rename_i p h hb;split at hs;rotate_left
  ·cases hs
  rename_i q n Dy;cases hs;obtain⟨hp,hq⟩:=hob;obtain⟨rfl,In,hAs⟩:=hnl;obtain⟨h1,h2,h3,h4⟩:=Ace (P:=P) (w:=w) (c1:=.sliceAcap) (c2:=.sliceB) Jz Qa hb Dy hp hq Eg Zf In;refine⟨_,Amg ht hinf h3 h4,?_,rfl,trivial⟩;refine .osl _ _ _ _ _ _ _ ob ho hg ⟨rfl,by omega,fun hp=>?_⟩ (fun Gk=>?_)
  ·obtain⟨b,j,rfl⟩:=hAs (by omega);rw[if_neg (by omega)];exact⟨b,j+n*P.cellsOf e,by simp only[q_jh,Mk]⟩
  obtain⟨Ew,hA⟩:=Jw Gk;refine⟨by omega,?_⟩
  by_cases Ik:cap=n
  ·exact .inr (by omega)
  ·rcases hA with⟨rfl,Ou⟩|h0
   ·rw[if_neg Ik];refine .inl ⟨?_,?_⟩
    ·simp only[q_jh,Mk];rw[Nat.add_mul,Tn]
    ·rw[show off+n+(cap-n)=off+cap by omega];exact Ou
   ·omega
 |str b=>
  have hz:z=0:=by
   rcases Nat.eq_zero_or_pos z with h|h
   ·exact h
   ·simp[Mj,show z≠0 by omega] at hs
  rcases ht with⟨e,ht,hinf,rfl,hzp⟩|⟨ht,_⟩
  ·omega
  have:=Zz hx;subst this;simp only[Mj,hz,ne_eq,not_true_eq_false,if_false] at hs;split at hs;rotate_left
  ·cases hs
  rename_i p h hb;split at hs;rotate_left
  ·cases hs
  rename_i q n Dy;cases hs;obtain⟨hp,hq⟩:=hob;obtain⟨h1,h2,h3,h4⟩:=Ace (P:=P) (w:=w) (c1:=.sliceAlen) (c2:=.sliceB) Jz Qa hb Dy hp hq Eg Zf (q_ja _);exact⟨_,A2l ht h3 h4,.rep _ _ (.str _),rfl,trivial⟩
 |_=>simp[Mj] at hs
end
section
variable{P:Program}{U:Nat->Prop}{w0:World}{own:Nat->Prop}{E:Env}{w:World}{s:St}{a:Act}
def Jf{o:Option SV}{eff:Eff}(h:s.val o=some eff):∃v,o=some v/\eff.val=v/\eff.hp=s.hp/\eff.as:=by
 cases o with
 |none=>simp[St.val] at h
 |some v=>simp only[St.val,q_b] at h;subst h;exact⟨v,rfl,rfl,rfl,trivial⟩
def As3{t:TypeId}{d:Nat}{b c:Bool}(h:P.underlying t=some .bool):(Op.equalIn (d+1) t (.bool b) (.bool c)).run P w=.ok (b==c) w:=by
 simp[Op.equalIn,run_underlying h]
def As5{t e:TypeId}{d:Nat}{p:Option Addr}(h:P.underlying t=some (.pointer e)):(Op.equalIn (d+1) t (.pointer p) (.pointer none)).run P w=.ok p.isNone w:=by
 cases p<;>simp[Op.equalIn,run_underlying h]
def As4{t e:TypeId}{d:Nat}{p:Addr}(h:P.underlying t=some (.pointer e)):(Op.equalIn (d+1) t (.pointer none) (.pointer (some p))).run P w=.ok false w:=by
 simp[Op.equalIn,run_underlying h]
def Ah9{t e:TypeId}{i:TypeInfo}{d:Nat}{a b:Addr}(h:P.underlying t=some (.pointer e))(hi:P.info? e=some i)(Cf:i.size≠0)
  (Xv:a≠b->(∃c e,w.heap[a.block]?=some (.cells c e (0,0)))/\∃c e,w.heap[b.block]?=some (.cells c e (0,0))):(Op.equalIn (d+1) t (.pointer (some a)) (.pointer (some b))).run P w=.ok (decide (a=b)) w:=by
 by_cases he:a=b
 ·subst he;simp[Op.equalIn,run_underlying h,sizeOf,typeInfo,hi,Cf,run_sameAddr_same]
 ·obtain⟨⟨ca,ta,ha⟩,⟨cb,tb,hb⟩⟩:=Xv he;simp[Op.equalIn,run_underlying h,sizeOf,typeInfo,hi,Cf,run_sameAddr_other w he ha hb,he]
def Xl{op:BinOp}{t:TypeId}{u v:Value}{b:Bool}{r:SV}(h:eqB op b=some r)(he:(Op.equal t u v).run P w=.ok b w)(hn:∀k n,u≠.int k n)(hf:∀k n,u≠.float k n)(hs:∀b,u≠.string b)(hc:∀k m n,u≠.complex k m n)(hg:∀x y,eqGuard op t x y u v=pure ())
  (x y:Operand):∃z,(do eqGuard op t x y u v;binOp op t u v:Sem Value).run P w=.ok z w/\RelV E z r:=by
 rw[hg x y];cases op<;>simp only[eqB,q_b] at h<;>first|(cases h;done)|skip
 ·subst h;have hb:binOp .eql t u v=(do pure (.bool (<-Op.equal t u v))):=by
   cases u<;>first|(exact absurd rfl (hn _ _))|(exact absurd rfl (hf _ _))|(exact absurd rfl (hs _))|(exact absurd rfl (hc _ _ _))|(cases v<;>rfl)
  exact⟨.bool b,by simp[hb,he],.rep _ _ (.bool _)⟩
 ·subst h;have hb:binOp .neq t u v=(do pure (.bool (!(<-Op.equal t u v)))):=by
   cases u<;>first|(exact absurd rfl (hn _ _))|(exact absurd rfl (hf _ _))|(exact absurd rfl (hs _))|(exact absurd rfl (hc _ _ _))|(cases v<;>rfl)
  exact⟨.bool (!b),by simp[hb,he],.rep _ _ (.bool _)⟩
def Aoe{op:BinOp}{t:TypeId}{kd:Nat}{x y:Operand}{u v:Value}{sx sy r:SV}(hu:RelV E u sx)(hv:RelV E v sy)(h:Fq kd op sx sy=some r)
  (ht:(kd=0/\∃k,P.underlying t=some (.int k))\/(kd=1/\P.underlying t=some .bool)\/(kd=2/\∃e,P.underlying t=some (.pointer e)/\∃i,P.info? e=some i/\i.size≠0)\/(kd=3/\∃k,P.underlying t=some (.float k))\/(kd=4/\P.underlying t=some .string)) (Fo:∀b,E.m.p b->∃c e,w.heap[b]?=some (.cells c e (0,0))) :
  ∃z,(do eqGuard op t x y u v;binOp op t u v:Sem Value).run P w=.ok z w/\RelV E z r:=by
 have Aan:∀p:Option Addr,u=.pointer p->sy=.nilp->(if kd=2 then eqB op p.isNone else none)=some r->∃z,(do eqGuard op t x y u v;binOp op t u v:Sem Value).run P w=.ok z w/\RelV E z r:=by
  intro p hp hs hk;subst hp;subst hs;split at hk;rotate_left
  ·cases hk
  rename_i Ek;rcases ht with⟨h0,_⟩|⟨h0,_⟩|⟨_,e,Io,_⟩|⟨h0,_⟩|⟨h0,_⟩
  ·omega
  ·omega
  rotate_left
  ·omega
  ·omega
  ·have:=Aa2 hv;subst this;refine Xl hk ?_ (by simp) (by simp) (by simp) (by simp) (fun x y=>eqGuard_at_pointer _ _ _ _ _ _) x y;exact As5 (d:=9999) Io
 have Yq:∀p:Addr,v=.pointer (some p)->u=.pointer none->(if kd=2 then eqB op false else none)=some r->∃z,(do eqGuard op t x y u v;binOp op t u v:Sem Value).run P w=.ok z w/\RelV E z r:=by
  intro p hp hs hk;subst hp;subst hs;split at hk;rotate_left
  ·cases hk
  rename_i Ek;rcases ht with⟨h0,_⟩|⟨h0,_⟩|⟨_,e,Io,_⟩|⟨h0,_⟩|⟨h0,_⟩
  ·omega
  ·omega
  rotate_left
  ·omega
  ·omega
  ·refine Xl hk ?_ (by simp) (by simp) (by simp) (by simp) (fun x y=>eqGuard_at_pointer _ _ _ _ _ _) x y;exact As4 (d:=9999) Io
 cases sx with
 |int k n=>
  have:=Lk hu;subst this;cases sy with
  |int k' m=>
   have:=Lk hv;subst this;simp only[Fq] at h;split at h;rotate_left
   ·cases h
   rename_i hk;obtain⟨_,rfl⟩:=hk
   by_cases Cg:op=.rem
   ·subst Cg;simp only[Zm] at h;split at h
    ·cases h
    ·rename_i hb;cases h;exact⟨.int k _,by simp[eqGuard_at_int,binOp,Op.intDiv,hb],.rep _ _ (.int _ _)⟩
   cases op<;>first|exact absurd rfl Cg|skip
   all_goals simp only[Zm,q_b] at h
   all_goals first|(cases h;done)|skip
   all_goals subst h
   all_goals first
    |(refine⟨.int k _,?_,.rep _ _ (.int _ _)⟩;simp[eqGuard_at_int,binOp,Op.intArith];done)
    |(refine⟨.bool _,?_,.rep _ _ (.bool _)⟩;simp[eqGuard_at_int,binOp,Op.intCmp];done)
  |_=>simp[Fq] at h
 |bool b=>
  have:=Uu hu;subst this;cases sy with
  |bool c=>
   have:=Uu hv;subst this;simp only[Fq] at h;split at h;rotate_left
   ·cases h
   rename_i hk;rcases ht with⟨h0,_⟩|⟨_,Io⟩|⟨h0,_⟩|⟨h0,_⟩|⟨h0,_⟩
   ·omega
   rotate_left
   ·omega
   ·omega
   ·omega
   ·refine Xl h ?_ (by simp) (by simp) (by simp) (by simp) (fun x y=>eqGuard_at_bool _ _ _ _ _ _) x y;exact As3 (d:=9999) Io
  |_=>simp[Fq] at h
 |float k b=>
  have:=Aig hu;subst this;cases sy with
  |float k' c=>
   have:=Aig hv;subst this;simp only[Fq] at h;split at h;rotate_left
   ·cases h
   rename_i hk;obtain⟨_,rfl⟩:=hk;cases op<;>simp only[Ac5,q_b] at h<;>first|(cases h;done)|skip
   all_goals subst h
   all_goals
    refine⟨.bool _,?_,.rep _ _ (.bool _)⟩;simp[eqGuard_at_float,binOp,Op.floatCmp]
  |_=>simp[Fq] at h
 |ref o g e c=>
  cases sy with
  |nilp=>
   cases hu with
   |rep _ _ hr=>cases hr
   |ref _ _ _ _ b j=>exact Aan _ rfl rfl (by simpa [Fq] using h)
  |_=>simp[Fq] at h
 |str sa=>
  have:=Zz hu;subst this;cases sy with
  |str sb=>
   have:=Zz hv;subst this;simp only[Fq] at h;split at h;rotate_left
   ·cases h
   by_cases Cg:op=.add
   ·subst Cg;simp only[Ui] at h;split at h;rotate_left
    ·cases h
    rename_i hz;cases h;exact⟨.string _,by simp[eqGuard_at_string,binOp,Op.stringOp,show IntKind.i64.max=9223372036854775807 from by decide];omega,.rep _ _ (.str _)⟩
   cases op<;>first|exact absurd rfl Cg|skip
   all_goals simp only[Ui,eqB,q_b] at h
   all_goals first|(cases h;done)|skip
   all_goals subst h
   ·exact⟨.bool _,by simp[eqGuard_at_string,binOp,Op.stringOp],.rep _ _ (.bool _)⟩
   ·exact⟨.bool _,by simp[eqGuard_at_string,binOp,Op.stringOp],.rep _ _ (.bool _)⟩
  |_=>simp[Fq] at h
 |dref z l c=>
  cases sy with
  |nilp=>
   cases hu.closed_rep rfl with
   |dref _ _ _ b off vs=>exact Aan _ rfl rfl (by simpa [Fq] using h)
  |_=>simp[Fq] at h
 |gp i c=>
  cases sy with
  |nilp=>
   cases hu.closed_rep rfl with
   |gp=>exact Aan _ rfl rfl (by simpa [Fq] using h)
  |gp j d=>
   cases hu.closed_rep rfl with
   |gp _ _ b hb hpb=>
    cases hv.closed_rep rfl with
    |gp _ _ b2 Dy hpb2=>
     simp only[Fq] at h;split at h;rotate_left
     ·cases h
     rename_i Ek;rcases ht with⟨h0,_⟩|⟨h0,_⟩|⟨_,e,Io,inf,hinf,Cf⟩|⟨h0,_⟩|⟨h0,_⟩
     ·omega
     ·omega
     rotate_left
     ·omega
     ·omega
     refine Xl h ?_ (by simp) (by simp) (by simp) (by simp) (fun x y=>eqGuard_at_pointer _ _ _ _ _ _) x y;have hE:=Ah9 (P:=P) (w:=w) (d:=9999) (a:=⟨b,c,none⟩) (b:=⟨b2,d,none⟩) Io hinf Cf (fun _=>⟨Fo b hpb,Fo b2 hpb2⟩);have Oz:decide ((⟨b,c,none⟩:Addr)=⟨b2,d,none⟩)=(i==j && c==d):=by
      by_cases Jk:i=j
      ·subst Jk;rw[hb] at Dy;cases Dy
       by_cases hcd:c=d<;>simp[hcd]
      ·have:b≠b2:=fun Rg=>Jk (E.m.inj i j b hb (by rw[Rg];exact Dy))
       simp[Jk,this]
     rw[Oz] at hE;exact hE
  |_=>simp[Fq] at h
 |nilp=>
  cases sy with
  |nilp=>exact Aan _ (Aa2 hu) rfl (by simpa [Fq] using h)
  |dref z l c=>
   cases hv.closed_rep rfl with
   |dref _ _ _ b off vs=>exact Yq _ rfl (Aa2 hu) (by simpa [Fq] using h)
  |gp i c=>
   cases hv.closed_rep rfl with
   |gp=>exact Yq _ rfl (Aa2 hu) (by simpa [Fq] using h)
  |_=>simp[Fq] at h
 |_=>simp[Fq] at h
def Anq{u:Value}{b:Bool}{l:List SV}(h:RelV E u (.agg b l)):∃vs:List Value,u=.agg vs.toArray/\(∀v∈vs,v.oneCell'=true)/\vs.length=l.length /\
  (∀(j:Nat) (v:Value) (x:SV),vs[j]?=some v->l[j]?=some x->RelV E v x)/\(b=true->∀(j:Nat) (v:Value) (x:SV),vs[j]?=some v->l[j]?=some x->Rep E.m v x):=by
 cases h with
 |rep _ _ hr=>
  cases hr with
  |agg vs _ h0 h1 h2=>exact⟨vs,rfl,h0,h1,fun j v x hv hx=>.rep _ _ (h2 j v x hv hx),fun _=>h2⟩
 |agg vs _ h0 h1 h2=>exact⟨vs,rfl,h0,h1,h2,fun hb=>by cases hb⟩
def Avg{t:TypeId}{i:Nat}{f:Field}{ag b:Bool}{u:Value}{l:List SV}(hf:Pq P t i=some f)(Gh:Hb P f.type=some ag)(h1:ag=true\/P.cellsOf f.type=1)(Ew:f.offset+P.cellsOf f.type<=l.length)(hu:RelV E u (.agg b l)) :
  ∃v,(Instr.field t u i).run P w=.ok v w/\RelV E v (cut b (l.length+1) ag (P.cellsOf f.type) f.offset l):=by
 obtain⟨vs,rfl,g1,g2,g3,g4⟩:=Anq hu;have Mt:∃fs,P.underlying t=some (.struct fs)/\fs[i]?=some f:=by
  unfold Pq at hf;split at hf
  ·rename_i fs Oa;exact⟨fs,Oa,hf⟩
  ·cases hf
 obtain⟨fs,z8,y9⟩:=Mt;obtain⟨inf,hinf⟩:=Aax Gh;have Cf:=run_sizeOf (P:=P) w hinf;unfold cut;cases ag with
 |true=>
  refine⟨.agg ((vs.drop f.offset).take (P.cellsOf f.type)).toArray,?_,?_⟩
  ·simp[Instr.field,run_underlying z8,y9,asAgg,part,Abi Gh,Cf]
  ·simp only[if_true];rw[if_neg (by omega)];have Jo:∀(j:Nat) (v:Value),((vs.drop f.offset).take (P.cellsOf f.type))[j]?=some v->vs[f.offset+j]?=some v:=by
    intro j v hv;rw[q_jx] at hv;split at hv
    ·exact getElem?_drop_some hv
    ·cases hv
   have Akf:∀(j:Nat) (v:SV),((l.drop f.offset).take (P.cellsOf f.type))[j]?=some v->l[f.offset+j]?=some v:=by
    intro j v hv;rw[q_jx] at hv;split at hv
    ·exact getElem?_drop_some hv
    ·cases hv
   cases b with
   |true=>exact .rep _ _ (.agg _ _ (fun v hv=>g1 v (List.mem_of_mem_drop (List.mem_of_mem_take hv))) (by simp;omega) (fun j v x hv hx=>g4 rfl _ v x (Jo j v hv) (Akf j x hx)))
   |false=>exact .agg _ _ (fun v hv=>g1 v (List.mem_of_mem_drop (List.mem_of_mem_take hv))) (by simp;omega) (fun j v x hv hx=>g3 _ v x (Jo j v hv) (Akf j x hx))
 |false=>
  have hn:P.cellsOf f.type=1:=by simpa using h1
  have Aq:f.offset<vs.length:=by omega
  refine⟨vs[f.offset],?_,?_⟩
  ·simp[Instr.field,run_underlying z8,y9,asAgg,part,Abi Gh,Aq]
  ·simp only[q_kx,if_false];exact g3 f.offset _ _ (q_f Aq) (by rw[List.getD,q_f (by omega)];rfl)
def Axc{t e:TypeId}{xv iv:Value}{x i r:SV}{p:Prop}(hu:∀o,U o->E.H o=s.hp[o]?)(ht:P.underlying t=some (.slice e))(Dw:0<P.cellsOf e)(h:Sj s.hp (P.cellsOf e) x i=some (p,r))(hp:p)(hx:RelV E xv x)(hi:RelV E iv i)(Db:∀o∈Dh x,U o) :
  ∃v,(Instr.indexAt t xv iv).run P w=.ok v w/\RelV E v r:=by
 have hinf:∃inf,P.info? e=some inf:=by
  cases hq:P.info? e with
  |none=>simp[Program.cellsOf,hq] at Dw
  |some inf=>exact⟨inf,rfl⟩
 obtain⟨inf,hinf⟩:=hinf;have Cf:=run_sizeOf (P:=P) w hinf;have Hr:∀(k:IntKind) (n:Int) (b j len cap:Nat),0<=n->n<len->(Instr.indexAt t (.slice (some ⟨b,j,none⟩) len cap) (.int k n)).run P w=.ok (.pointer (some ⟨b,j+n.toNat*P.cellsOf e,none⟩)) w:=by
  intro k n b j len cap h0 h1;simp[Instr.indexAt,asIntOf,run_underlying ht,h0,h1,Cf,Mk]
 cases i with
 |int k n=>
  have:=Lk hi;subst this;cases x with
  |osl o g off len=>
   have hU:=Db o (by simp[Dh]);cases hx with
   |rep _ _ hr=>cases hr
   |osl _ _ _ _ A m cap ob ho hg hnl Jw=>
    simp only[Sj] at h;rw[<-hu o hU,ho] at h;simp only at h;split at h;rotate_left
    ·cases h
    rename_i Tn;cases h;obtain⟨h0,h1⟩:=hp;obtain⟨rfl,In,hA⟩:=hnl;obtain⟨b,j,rfl⟩:=hA (by omega);refine⟨_,Hr k n b j m cap h0 h1,.ref _ _ _ _ _ _ ob ho hg (fun Gk=>?_)⟩;obtain⟨Ew,w8⟩:=Jw Gk;rcases w8 with⟨w8,_⟩|h0
    ·simp only[q_b,Addr.mk.injEq] at w8;obtain⟨rfl,rfl,_⟩:=w8;exact⟨rfl,by rw[Nat.add_mul,Tn];omega⟩
    ·omega
  |dsl z l=>
   have hr:=hx.closed_rep rfl;simp only[Sj] at h;split at h;rotate_left
   ·cases h
   rename_i Tn;cases h;obtain⟨⟨h0,h1⟩,Yt⟩:=hp;cases hr with
   |dsl0=>simp at h1;omega
   |dsl _ _ cap b off vs g0 g1 g2 g3 g4 g5 g6=>
    refine⟨_,Hr k n b off l.length cap h0 h1,?_⟩;have Aq:n.toNat<l.length:=by omega
    have Mq:l[n.toNat]?=some (l.getD n.toNat []):=by simp[List.getD,q_f Aq]
    have hrl:=g3 _ (q_jb Mq);have Hp:=Iu g3;have h2:(n.toNat+1)*z<=l.length*z:=q_jy _ Aq;rw[Nat.succ_mul] at h2;subst Tn;have Jo:∀(j:Nat) (v:Value),((vs.drop (n.toNat*P.cellsOf e)).take (P.cellsOf e))[j]?=some v->j<P.cellsOf e/\vs[n.toNat*P.cellsOf e+j]?=some v:=by
     intro j v hv;rw[q_jx] at hv;split at hv
     ·exact⟨by omega,getElem?_drop_some hv⟩
     ·cases hv
    have:=Rep.dref (m:=E.m) (P.cellsOf e) (l.getD n.toNat []) 0 b (off+n.toNat*P.cellsOf e) ((vs.drop (n.toNat*P.cellsOf e)).take (P.cellsOf e)) (fun v hv=>g0 v (List.mem_of_mem_drop (List.mem_of_mem_take hv))) (by simp;omega) hrl
     (fun j v hv=>by have:=g5 _ v (Jo j v hv).2;rw[q_ks];exact this)
     (fun hp=>by have hq:=Yt;unfold pok at hq;rw[if_pos (by rcases A0u hp with h|h<;>omega)] at hq;rw[hq] at hp;cases hp)
     (fun j v x hv hx=>by
      obtain⟨hj,Cw⟩:=Jo j v hv;refine g6 _ v x Cw ?_;rw[Pr g3 _ _ hj,Mq];exact hx)
    exact .rep _ _ this
  |_=>simp[Sj] at h
 |_=>cases x<;>simp[Sj] at h
def Ax7{st:Bool}{t:TypeId}{ts:Array TypeId}{ty:TypeId}{xv:Value}{x:SV}{eff:Eff}(Tp:ts.getD 0 0=t)(Oy:0<ts.size)(ht:st=false/\(∃e,P.underlying t=some (.slice e))\/st=true/\P.underlying t=some .string)(h:Ni s.hp st x=some eff)(hx:RelV E xv x) :
  ∃v,(Builtin.len_ ts ty #[xv]).run P w=.ok v w/\RelV E v eff.val/\eff.hp=s.hp/\eff.as:=by
 have Tq:ts[0]?=some t:=by
  rw[Array.getElem?_eq_getElem Oy];simp[Oy] at Tp;rw[Tp]
 rcases ht with⟨rfl,e,he⟩|⟨rfl,he⟩
 ·have Jn:∀A n cap,xv=.slice A n cap->(Builtin.len_ ts ty #[xv]).run P w=.ok (.int .i64 n) w:=by
   intro A n cap hxv;subst hxv;simp[Builtin.len_,Tq,run_underlying he,goInt]
  cases x with
  |nils=>
   simp only[Ni,q_b] at h;subst h;have:=All hx;exact⟨_,Jn _ _ _ this,.rep _ _ (.int _ _),rfl,trivial⟩
  |dsl z l=>
   simp only[Ni,q_b] at h;subst h;have hr:=hx.closed_rep rfl;have Qg:∃A cap,xv=.slice A l.length cap/\l.length<=140737488355328:=by
    cases hr with
    |dsl0 _ A cap=>exact⟨A,cap,rfl,by simp⟩
    |dsl _ _ cap b off vs g0 g1 g2=>exact⟨_,cap,rfl,g2⟩
   obtain⟨A,cap,h1,h2⟩:=Qg;exact⟨_,Jn _ _ _ h1,.rep _ _ (.int _ _),rfl,h2⟩
  |osl o g off len=>
   simp only[Ni,q_b] at h;subst h;cases hx with
   |rep _ _ hr=>cases hr
   |osl _ _ _ _ A m cap ob ho hg hnl Jw=>
    obtain⟨rfl,_,_⟩:=hnl;exact⟨_,Jn _ _ _ rfl,.rep _ _ (.int _ _),rfl,trivial⟩
  |_=>simp[Ni] at h
 ·cases x with
  |str b=>
   simp only[Ni,q_b] at h;subst h;have:=Zz hx;subst this;exact⟨.int .i64 b.size,by simp[Builtin.len_,Tq,run_underlying he,goInt],.rep _ _ (.int _ _),rfl,trivial⟩
  |_=>simp[Ni] at h
def Hx(s:St):AOp->Bool
 |.load _ _ a=>Ka (s.get a)
 |.store _ a _=>Ka (s.get a)
 |.newg _=>true
 |.boxg _=>true
 |.mkmap=>true
 |.mlk ..=>true
 |.mup ..=>true
 |.hcall ..=>true
 |.pan _=>true
 |_=>false
def l6{v:SV}(h:Ka v=false):adC v=Dh v:=by unfold adC;rw[h];rfl
def A0c{o:Oper}{aop:AOp}{eff:Eff}(tr:Br P o.op=some aop)(Ct:Hx s aop=false)(he:Bj s aop=some eff)(hob:eff.ob)(hW:W w0 own E w)(hu:∀i,U i->E.H i=s.hp[i]?)(hn:Hd s aop=true->U s.hp.length)(Db:∀i∈Dt s aop,U i)
  (hx:∀x∈o.op.operands,∀ax,trX x=some ax->RelV E (a.eval x) (s.get ax)):OpRes P (execOp a.eval o) U w0 own E w eff:=by
 obtain⟨dst,op,ty,pos,after,guard⟩:=o;simp only at tr hx;cases op with
 |move x=>
  simp only[Br,q_e] at tr;obtain⟨ax,Bb,rfl⟩:=tr;simp only[Bj] at he;obtain⟨v,hv,e1,e2,e3⟩:=Jf he;cases hv;exact OpRes.pure_ hW hu (by simp[execOp];rfl) (by rw[e1];exact hx x (by simp[Op.operands]) ax Bb) e2 e3
 |assign x=>
  simp only[Br,q_e] at tr;obtain⟨ax,Bb,rfl⟩:=tr;simp only[Bj] at he;obtain⟨v,hv,e1,e2,e3⟩:=Jf he;cases hv;exact OpRes.pure_ hW hu (by simp[execOp];rfl) (by rw[e1];exact hx x (by simp[Op.operands]) ax Bb) e2 e3
 |pick c x y=>
  simp only[Br,q_c,q_a,q_d,q_b] at tr;obtain⟨ac,No,ax,Bb,ay,Ev,rfl⟩:=tr;simp only[Bj] at he;split at he;rotate_left
  ·cases he
  rename_i t hc;obtain⟨v,hv,e1,e2,e3⟩:=Jf he;cases hv;have Hn:=hx c (by simp[Op.operands]) ac No;rw[hc] at Hn;have:=Uu Hn;refine OpRes.pure_ (v:=if t then a.eval x else a.eval y) hW hu (by cases t<;>simp[execOp,this,asBool]) ?_ e2 e3;rw[e1];cases t
  ·exact hx y (by simp[Op.operands]) ay Ev
  ·exact hx x (by simp[Op.operands]) ax Bb
 |alloc t=>
  simp only[Br,q_e] at tr;obtain⟨z,hz,htr⟩:=tr;split at htr
  ·subst htr;simp[Hx] at Ct
  subst htr;obtain⟨i,zv,hi,Hh,Jm,Cu⟩:=Sf (m:=E.m) hz;simp only[Bj,q_b] at he;subst he;obtain⟨E',b1,b2⟩:=Ag0 (s:=s) hW hu (hn rfl) t (.rep _ _ Cu) (Lm (m:=E.m) Jm).2.2;rw[(Lm (m:=E.m) Jm).2.1] at b2;refine⟨_,_,E',.inl ?_,b1,b2,by simp,trivial⟩;simp[execOp,Instr.alloc,zeroValue,typeInfo,hi,Hh,newVar,newRow]
 |box t x=>
  simp only[Br,q_e] at tr;obtain⟨ax,Bb,htr⟩:=tr;split at htr
  ·subst htr;simp[Hx] at Ct
  subst htr;simp only[Bj,q_b] at he;subst he;obtain⟨E',b1,b2⟩:=Ag0 (s:=s) hW hu (hn rfl) t (hx x (by simp[Op.operands]) ax Bb) hob;refine⟨_,_,E',.inl ?_,b1,b2,by simp,trivial⟩;simp[execOp,Instr.box,newVar,newRow]
 |lookup t x k ok=>
  cases ok with
  |false=>simp[Br] at tr
  |true=>
   simp only[Br] at tr;split at tr
   ·simp only[q_c,q_a,q_d,q_b] at tr;obtain⟨_,_,_,_,rfl⟩:=tr;simp[Hx] at Ct
   ·cases tr
 |mapUpdate t x k v=>
  simp only[Br] at tr;split at tr
  ·simp only[q_c,q_a,q_d,q_b] at tr;obtain⟨_,_,_,_,_,_,rfl⟩:=tr;simp[Hx] at Ct
  ·cases tr
 |build t parts=>
  simp only[Br] at tr;split at tr;rotate_left
  ·rename_i n e Io;simp only[q_c,q_a] at tr;obtain⟨z,hz,xs,Ic,tr⟩:=tr;split at tr;rotate_left
   ·cases tr
   rename_i hcond;cases tr;obtain⟨c1,c2,c3,c4⟩:=hcond;obtain⟨inf,hinf⟩:=q_ka.1 c3;simp only[Bj,q_b] at he;subst he;obtain⟨i,zv,hi,Hh,Jm,Cu⟩:=Sf (m:=E.m) hz;have Aex:=(Lm (m:=E.m) Jm).2.2;obtain⟨zs,y1,y2,y3,y4,y5⟩:=Ld (.rep _ _ Cu:RelV E zv z) Aex;obtain⟨g1,g2⟩:=Aft Ic;have Aal:∀q∈parts.toList,∀ax,trX q.2=some ax->RelV E (a.eval q.2) (s.get ax):=fun q hq ax Bb=>hx q.2 (by
    simp only[Op.operands,List.mem_toArray,q_kz];exact⟨q,hq,rfl⟩) ax Bb
   obtain⟨cs',f1,f2,f3,f4,f5⟩:=Aib (sz:=1) E.m (by omega) (parts.toList.map fun q=>(q.1,a.eval q.2)) 0 (xs.map s.get) zv.cells (by rw[q_g,q_g,g1]) (fun j q hq=>by
     simp only[q_ji,q_e] at hq;obtain⟨q0,Vw,rfl⟩:=hq;exact (g2 j q0 Vw).1)
    (by rw[y1];simp only[q_g,List.size_toArray];omega) (fun x Dd=>by
     obtain⟨ax,Bb,rfl⟩:=q_kz.1 Dd;obtain⟨k1,k2,k3⟩:=hob ax Bb;exact⟨k2,k1,k3⟩) (fun j q x hq Dd=>by
     simp only[q_ji,q_e] at hq Dd;obtain⟨q0,Vw,rfl⟩:=hq;obtain⟨ax,Bb,rfl⟩:=Dd;obtain⟨_,ax',Aix,Za⟩:=g2 j q0 Vw;rw[Bb] at Aix;cases Aix;exact (Aal q0 (q_jb Vw) ax Za).closed_rep (hob ax (q_jb Bb)).1) (by rw[y1];simpa using y3)
   have Aap:(execOp a.eval { dst:=dst,op:=.build t parts,type:=ty,pos:=pos,after:=after,guard:=guard }).run P w=.ok (.value (.agg cs')) w:=by
    have Fo:(parts.map fun (i,x)=>(i,a.eval x)).toList=parts.toList.map fun q=>(q.1,a.eval q.2):=by rw[Array.toList_map]
    simp only[execOp,Instr.build,Sem.run_bind,zeroValue,run_typeInfo w hi,Result.andThen_ok,Hh,Sem.run_pure,run_underlying Io,run_sizeOf w hinf,c2,Fo,f1]
   have hcl:cs'.size=((xs.map s.get).map cellsOf).flatten.length:=by
    rw[f2,y1,List.size_toArray,y2,c4,<-c1];have:∀l:List AX,(∀p∈l,(cellsOf (s.get p)).length=1)->l.length=((l.map s.get).map cellsOf).flatten.length:=by
     intro l
     induction l with
     |nil=>intro _;rfl
     |cons p l ih=>
      intro hl;simp only[q_h,List.flatten_cons,q_jr,q_jk];rw[hl p List.mem_cons_self,<-ih (fun q hq=>hl q (List.mem_cons_of_mem _ hq))];omega
    exact this xs (fun p hp=>(hob p hp).2.2)
   refine OpRes.pure_ (v:=.agg cs') hW hu Aap ?_ rfl trivial;have Hp:(xs.map fun p=>cellsOf (s.get p)).flatten=((xs.map s.get).map cellsOf).flatten:=by rw[List.map_map];rfl
   show RelV E (.agg cs') (.agg true (xs.map fun p=>cellsOf (s.get p)).flatten);rw[Hp];have:=Rep.agg (m:=E.m) cs'.toList ((xs.map s.get).map cellsOf).flatten f3 (by simpa using hcl) (fun j v x hv Dd=>f5 j v x (by simpa using hv) Dd);exact .rep _ _ (by simpa using this)
  ·cases tr
  rename_i fs Mt;simp only[q_c,q_a] at tr;obtain⟨z,hz,ps,Qd,tr⟩:=tr;split at tr;rotate_left
  ·cases tr
  rename_i Fr;cases tr;simp only[q_jl,List.all_eq_true,q_jt] at Fr;obtain⟨hinf,Ai0⟩:=Fr;simp only[Bj,q_b] at he;subst he;obtain⟨i,zv,hi,Hh,Jm,Cu⟩:=Sf (m:=E.m) hz;have hzc:=(Lm (m:=E.m) Jm).2.1;have Aex:=(Lm (m:=E.m) Jm).2.2;obtain⟨places,p1,p2⟩:=A0k (P:=P) (fs:=fs) (by rw[List.all_eq_true];exact hinf) w;have Ajk:∀(j:Nat) (f:Field),Pq P t j=some f->fs[j]?=some f:=fun j f hf=>by simpa [Pq,Mt] using hf
  obtain⟨zs,y1,y2,y3,y4,y5⟩:=Ld (.rep _ _ Cu:RelV E zv z) Aex
  -- each part,its cells
  have Aal:∀q∈parts.toList,∀ax,trX q.2=some ax->RelV E (a.eval q.2) (s.get ax):=fun q hq ax Bb=>hx q.2 (by
   simp only[Op.operands,List.mem_toArray,q_kz];exact⟨q,hq,rfl⟩) ax Bb
  have Aef:∀{l:List (Nat×Operand)} {ps:List (Nat×Nat×AX)},Uj P t l=some ps->Ub (ps.map fun p=>(p.1,p.2.1,s.get p.2.2))->∀q∈l,∀ax,trX q.2=some ax->(s.get ax).ok=true/\((ps.all fun p=>(s.get p.2.2).closed)=true->(s.get ax).closed=true):=by
   intro l
   induction l with
   |nil=>intro ps _ _ q hq;cases hq
   |cons q0 l ih=>
    obtain⟨j,x⟩:=q0;intro ps htr hok q hq ax Bb;simp only[Uj,q_c,q_a,q_d,q_b] at htr;obtain⟨f,hf,ax0,hax0,ps',Aem,rfl⟩:=htr;simp only[q_h,Ub] at hok;rcases q_kb.1 hq with rfl|hq
    ·rw[hax0] at Bb;cases Bb;exact⟨hok.1,fun hc=>by simp only[List.all_cons,q_jl] at hc;exact hc.1⟩
    ·obtain⟨g1,g2⟩:=ih Aem hok.2.2 q hq ax Bb;exact⟨g1,fun hc=>by simp only[List.all_cons,q_jl] at hc;exact g2 hc.2⟩
  have Aap:∀cs',Instr.fill (places[·]?) zv.cells (parts.toList.map fun q=>(q.1,a.eval q.2))=some cs'->(execOp a.eval { dst:=dst,op:=.build t parts,type:=ty,pos:=pos,after:=after,guard:=guard }).run P w=.ok (.value (.agg cs')) w:=by
   intro cs' hc;have Fo:(parts.map fun (i,x)=>(i,a.eval x)).toList=parts.toList.map fun q=>(q.1,a.eval q.2):=by rw[Array.toList_map]
   simp only[execOp,Instr.build,Sem.run_bind,zeroValue,run_typeInfo w hi,Result.andThen_ok,Hh,Sem.run_pure,run_underlying Mt,p1,Fo,hc]
  by_cases hcl:(ps.all fun p=>(s.get p.2.2).closed)=true
  ·obtain⟨cs',c1,c2,c3,c4⟩:=Aic (P:=P) (s:=s) (a:=a) (t:=t) p2 Ajk (Rep E.m) parts.toList ps zv.cells (cellsOf z) Qd (by rw[y1];simpa using y2) (fun p hp=>Ai0 p hp) (fun k v x hv Dd=>by rw[y1] at hv;exact y5 hzc k v x (by simpa using hv) Dd)
    (by rw[y1];simpa using y3) hob (fun q hq ax Bb=>by
     obtain⟨vs,b1,b2,b3,b4,b5⟩:=Ld (Aal q hq ax Bb) (Aef Qd hob q hq ax Bb).1;exact⟨vs,b1,b2,b3,b5 ((Aef Qd hob q hq ax Bb).2 hcl)⟩)
   refine OpRes.pure_ (v:=.agg cs') hW hu (Aap cs' c1) ?_ rfl trivial;show RelV E (.agg cs') (.agg (ps.all fun p=>(s.get p.2.2).closed) _);rw[hcl];have:=Rep.agg (m:=E.m) cs'.toList (fill (cellsOf z) (ps.map fun p=>(p.1,p.2.1,s.get p.2.2))) c3 (by simpa using c2) (fun j v x hv Dd=>c4 j v x (by simpa using hv) Dd);exact .rep _ _ (by simpa using this)
  ·obtain⟨cs',c1,c2,c3,c4⟩:=Aic (P:=P) (s:=s) (a:=a) (t:=t) p2 Ajk (RelV E) parts.toList ps zv.cells (cellsOf z) Qd (by rw[y1];simpa using y2) (fun p hp=>Ai0 p hp) (fun k v x hv Dd=>by rw[y1] at hv;exact y4 k v x (by simpa using hv) Dd)
    (by rw[y1];simpa using y3) hob (fun q hq ax Bb=>by
     obtain⟨vs,b1,b2,b3,b4,b5⟩:=Ld (Aal q hq ax Bb) (Aef Qd hob q hq ax Bb).1;exact⟨vs,b1,b2,b3,b4⟩)
   refine OpRes.pure_ (v:=.agg cs') hW hu (Aap cs' c1) ?_ rfl trivial;show RelV E (.agg cs') (.agg (ps.all fun p=>(s.get p.2.2).closed) _);rw[show (ps.all fun p=>(s.get p.2.2).closed)=false by simpa using hcl];have:=RelV.agg (E:=E) cs'.toList (fill (cellsOf z) (ps.map fun p=>(p.1,p.2.1,s.get p.2.2))) c3 (by simpa using c2) (fun j v x hv Dd=>c4 j v x (by simpa using hv) Dd);simpa using this
 |buildSlice t len parts=>
  simp only[Br,q_c,q_a] at tr;obtain⟨e,Gb,xs,Ic,tr⟩:=tr;split at tr;rotate_left
  ·cases tr
  rename_i hcond;cases tr;obtain⟨c1,c2,c3,c4⟩:=hcond;have Io:P.underlying t=some (.slice e):=by
   unfold Ls at Gb;split at Gb
   ·rename_i Oa;cases Gb;exact Oa
   ·cases Gb
  obtain⟨z,hz⟩:=q_ka.1 c4.1;have Hs:(cellsOf z).length=P.cellsOf e:=by
   have:=c4.2;simpa [hz] using this
  simp only[Bj] at he;split at he;rotate_left
  ·cases he
  rename_i rows h hcr;cases he;obtain⟨v,w',E',r1,r2,r3,r4⟩:=Aor (P:=P) (s:=s) (a:=a) hW hu (hn rfl) Io hz c2 Hs Ic c1 c3 hcr hob (fun q hq ax Bb=>hx q.2 (by
   simp only[Op.operands,List.mem_toArray,q_kz];exact⟨q,hq,rfl⟩) ax Bb) Db
  exact⟨v,w',E',.inl (by simp[execOp,r1]),r2,r3,r4,trivial⟩
 |load t x=>
  simp only[Br,q_c,q_a] at tr;obtain⟨ag,Gh,ax,Bb,tr⟩:=tr;split at tr;rotate_left
  ·cases tr
  rename_i h1;cases tr;obtain⟨u,r1,r2,r3,r4⟩:=Ala hW hu Gh h1 he hob (hx x (by simp[Op.operands]) ax Bb) Ct (fun o ho=>Db o (by simp only[Dt];rw[l6 Ct];exact ho));exact OpRes.pure_ hW hu (by simp[execOp,r1]) r2 r3 r4
 |store t x y=>
  simp only[Br,q_c,q_a] at tr;obtain⟨ag,Gh,ax,Bb,ay,Ev,tr⟩:=tr;split at tr;rotate_left
  ·cases tr
  rename_i h1;cases tr;obtain⟨w',E',r1,r2,r3,r4,r5⟩:=A3c (s:=s) hW hu Gh h1.2 he hob (hx x (by simp[Op.operands]) ax Bb) (hx y (by simp[Op.operands]) ay Ev) Ct (fun i hi=>Db i (List.mem_append_left _ (by rw[l6 Ct];exact hi))) (fun i hi=>Db i (List.mem_append_right _ hi));exact⟨undef,w',E',.inr ⟨by simp[execOp,r1],rfl⟩,by rw[r4];exact .undef,r2,r3,r5⟩
 |nilCheck x=>
  simp only[Br,q_e] at tr;obtain⟨ax,Bb,rfl⟩:=tr;have hv:=hx x (by simp[Op.operands]) ax Bb;simp only[Bj] at he;split at he
  ·rename_i o g e c hc;obtain⟨v,Cw,e1,e2,e3⟩:=Jf he;cases Cw;rw[hc] at hv;have Qg:∃b,a.eval x=.pointer (some b):=by
    have Oz:=hv;generalize a.eval x=u at Oz;cases Oz with
    |rep _ _ hr=>cases hr
    |ref _ _ _ _ b j=>exact⟨_,rfl⟩
   obtain⟨b,hb⟩:=Qg;exact OpRes.pure_ (v:=a.eval x) hW hu (by simp[execOp,hb]) (by rw[e1];exact hv) e2 e3
  ·rename_i z l c hc;obtain⟨v,Cw,e1,e2,e3⟩:=Jf he;cases Cw;rw[hc] at hv;have Qg:∃b,a.eval x=.pointer (some b):=by
    have:=hv.closed_rep rfl;generalize a.eval x=u at this;cases this with
    |dref=>exact⟨_,rfl⟩
   obtain⟨b,hb⟩:=Qg;exact OpRes.pure_ (v:=a.eval x) hW hu (by simp[execOp,hb]) (by rw[e1];exact hv) e2 e3
  ·rename_i i c hc;obtain⟨v,Cw,e1,e2,e3⟩:=Jf he;cases Cw;rw[hc] at hv;have Qg:∃b,a.eval x=.pointer (some b):=by
    have:=hv.closed_rep rfl;generalize a.eval x=u at this;cases this with
    |gp=>exact⟨_,rfl⟩
   obtain⟨b,hb⟩:=Qg;exact OpRes.pure_ (v:=a.eval x) hW hu (by simp[execOp,hb]) (by rw[e1];exact hv) e2 e3
  ·cases he
 |binOp op t x y yt=>
  have key:∀kd ax ay,trX x=some ax->trX y=some ay->aop=.bin kd op ax ay->((kd=0/\∃k,P.underlying t=some (.int k))\/(kd=1/\P.underlying t=some .bool)\/(kd=2/\∃e,P.underlying t=some (.pointer e)/\∃i,P.info? e=some i/\i.size≠0)\/(kd=3/\∃k,P.underlying t=some (.float k))\/(kd=4/\P.underlying t=some .string)) ->
    OpRes P (execOp a.eval { dst:=dst,op:=.binOp op t x y yt,type:=ty,pos:=pos,after:=after,guard:=guard }) U w0 own E w eff:=by
   intro kd ax ay Bb Ev h1 h2;subst h1;simp only[Bj] at he;obtain⟨v,hv,e1,e2,e3⟩:=Jf he;obtain⟨z,r1,r2⟩:=Aoe (P:=P) (w:=w) (x:=x) (y:=y) (hx x (by simp[Op.operands]) ax Bb) (hx y (by simp[Op.operands]) ay Ev) hv h2 hW.pl;refine OpRes.pure_ (v:=z) hW hu ?_ (by rw[e1];exact r2) e2 e3;show (do pure (Next.value (<-(do eqGuard op t x y (a.eval x) (a.eval y);binOp op t (a.eval x) (a.eval y):Sem Value))):Sem Next).run P w=_;rw[Sem.run_bind,r1];rfl
  simp only[Br] at tr;split at tr
  ·rename_i k hk;simp only[q_c,q_a,q_d,q_b] at tr;obtain⟨ax,Bb,ay,Ev,rfl⟩:=tr;exact key 0 ax ay Bb Ev rfl (.inl ⟨rfl,k,hk⟩)
  ·rename_i hk;simp only[q_c,q_a,q_d,q_b] at tr;obtain⟨ax,Bb,ay,Ev,rfl⟩:=tr;exact key 1 ax ay Bb Ev rfl (.inr (.inl ⟨rfl,hk⟩))
  ·rename_i k hk;simp only[q_c,q_a,q_d,q_b] at tr;obtain⟨ax,Bb,ay,Ev,rfl⟩:=tr;exact key 3 ax ay Bb Ev rfl (.inr (.inr (.inr (.inl ⟨rfl,k,hk⟩))))
  ·rename_i e hk;split at tr;rotate_left
   ·cases tr
   rename_i inf hinf;split at tr;rotate_left
   ·cases tr
   rename_i Cf;simp only[q_c,q_a,q_d,q_b] at tr;obtain⟨ax,Bb,ay,Ev,rfl⟩:=tr;exact key 2 ax ay Bb Ev rfl (.inr (.inr (.inl ⟨rfl,e,hk,inf,hinf,Cf⟩)))
  ·rename_i hk;simp only[q_c,q_a,q_d,q_b] at tr;obtain⟨ax,Bb,ay,Ev,rfl⟩:=tr;exact key 4 ax ay Bb Ev rfl (.inr (.inr (.inr (.inr ⟨rfl,hk⟩))))
  ·cases tr
 |unOp op t x=>
  simp only[Br,q_e] at tr;obtain⟨ax,Bb,rfl⟩:=tr;have hv:=hx x (by simp[Op.operands]) ax Bb;simp only[Bj] at he;split at he
  ·rename_i b hc;obtain⟨v,Cw,e1,e2,e3⟩:=Jf he;cases Cw;rw[hc] at hv;have:=Uu hv;exact OpRes.pure_ (v:=.bool (!b)) hW hu (by simp[execOp,this,Op.unary]) (by rw[e1];exact .rep _ _ (.bool _)) e2 e3
  ·rename_i k n hc;obtain⟨v,Cw,e1,e2,e3⟩:=Jf he;cases Cw;rw[hc] at hv;have:=Lk hv;exact OpRes.pure_ (v:=.int k (k.wrap (0-n))) hW hu (by simp[execOp,this,Op.unary,Op.intArith]) (by rw[e1];exact .rep _ _ (.int _ _)) e2 e3
  ·cases he
 |convert src dst' x=>
  simp only[Br] at tr;split at tr
  ·rename_i k1 k2 hs hd;simp only[q_e] at tr;obtain⟨ax,Bb,rfl⟩:=tr;have hv:=hx x (by simp[Op.operands]) ax Bb;simp only[Bj] at he;split at he;rotate_left
   ·cases he
   rename_i k n hc;obtain⟨v,Cw,e1,e2,e3⟩:=Jf he;cases Cw;rw[hc] at hv;have:=Lk hv;exact OpRes.pure_ (v:=.int k2 (k2.wrap n)) hW hu (by simp[execOp,this,convert,run_underlying hs,run_underlying hd,Conv.intToInt]) (by rw[e1];exact .rep _ _ (.int _ _)) e2 e3
  ·rename_i k1 k2 hs hd;simp only[q_e] at tr;obtain⟨ax,Bb,rfl⟩:=tr;have hv:=hx x (by simp[Op.operands]) ax Bb;simp only[Bj] at he;split at he;rotate_left
   ·cases he
   rename_i k n hc;obtain⟨v,Cw,e1,e2,e3⟩:=Jf he;cases Cw;rw[hc] at hv;have:=Lk hv;exact OpRes.pure_ (v:=.float k2 (k2.nearest n)) hW hu (by simp[execOp,this,convert,run_underlying hs,run_underlying hd,Conv.intToFloat]) (by rw[e1];exact .rep _ _ (.float _ _)) e2 e3
  ·cases tr
 |makeSlice t l c=>
  simp only[Br,q_c,q_a] at tr;obtain⟨e,Gb,z,hz,tr⟩:=tr;split at tr;rotate_left
  ·cases tr
  rename_i hcond;simp only[q_a,q_d,q_b] at tr;obtain⟨al,hal,ac,No,rfl⟩:=tr;have Io:P.underlying t=some (.slice e):=by
   unfold Ls at Gb;split at Gb
   ·rename_i Oa;cases Gb;exact Oa
   ·cases Gb
  have hvl:=hx l (by simp[Op.operands]) al hal;have hvc:=hx c (by simp[Op.operands]) ac No;simp only[Bj] at he;split at he;rotate_left
  ·cases he
  rename_i kl l' kc c' hl hc;cases he;rw[hl] at hvl;rw[hc] at hvc;obtain⟨o1,o2,o3,o4⟩:=hob;obtain⟨v,w',E',r1,r2,r3,r4⟩:=Ay7 (P:=P) (s:=s) (kl:=kl) (kc:=kc) hW hu (hn rfl) Io hz hcond.1 hcond.2 o1 o2 o3 o4;exact⟨v,w',E',.inl (by simp[execOp,Lk hvl,Lk hvc,r1]),r2,r3,r4,trivial⟩
 |slice t x lo hi mx=>
  cases mx with
  |some m=>simp[Br] at tr
  |none=>
   simp only[Br] at tr;split at tr
   ·rename_i e hk;split at tr;rotate_left
    ·cases tr
    rename_i hinf;simp only[q_c,q_a,q_d,q_b] at tr;obtain⟨ax,Bb,alo,Jz,ahi,Qa,rfl⟩:=tr;simp only[Bj] at he;obtain⟨v,r1,r2,r3,r4⟩:=Amo (P:=P) (w:=w) (a:=a) (E:=E) hu (hx x (by simp[Op.operands]) ax Bb) Jz Qa he hob
     (fun y hy ax Bb=>hx y (by subst hy;simp[Op.operands]) ax Bb) (fun y hy ax Bb=>hx y (by subst hy;simp[Op.operands]) ax Bb) Db (.inl ⟨e,hk,hinf.1,rfl,hinf.2⟩)
    exact OpRes.pure_ hW hu (by simp[execOp,r1]) r2 r3 r4
   ·rename_i hk;simp only[q_c,q_a,q_d,q_b] at tr;obtain⟨ax,Bb,alo,Jz,ahi,Qa,rfl⟩:=tr;simp only[Bj] at he;obtain⟨v,r1,r2,r3,r4⟩:=Amo (P:=P) (w:=w) (a:=a) (E:=E) hu (hx x (by simp[Op.operands]) ax Bb) Jz Qa he hob
     (fun y hy ax Bb=>hx y (by subst hy;simp[Op.operands]) ax Bb) (fun y hy ax Bb=>hx y (by subst hy;simp[Op.operands]) ax Bb) Db (.inr ⟨hk,rfl⟩)
    exact OpRes.pure_ hW hu (by simp[execOp,r1]) r2 r3 r4
   ·cases tr
 |fieldAddr t x i=>
  simp only[Br,q_c,q_a] at tr;obtain⟨f,hf,tr⟩:=tr;split at tr
  ·cases tr
  rename_i hz;simp only[q_a,q_d,q_b] at tr;obtain⟨ax,Bb,rfl⟩:=tr;have hv:=hx x (by simp[Op.operands]) ax Bb;have Mt:∃fs,P.underlying t=some (.struct fs)/\fs[i]?=some f:=by
   unfold Pq at hf;split at hf
   ·rename_i fs Oa;exact⟨fs,Oa,hf⟩
   ·cases hf
  obtain⟨fs,z8,y9⟩:=Mt;have hinf:∃inf,P.info? f.type=some inf:=by
   cases hq:P.info? f.type with
   |none=>simp[Program.cellsOf,hq] at hz
   |some inf=>exact⟨inf,rfl⟩
  obtain⟨inf,hinf⟩:=hinf;have Hr:∀b j,a.eval x=.pointer (some ⟨b,j,none⟩)->(execOp a.eval { dst:=dst,op:=.fieldAddr t x i,type:=ty,pos:=pos,after:=after,guard:=guard }).run P w=.ok (.value (.pointer (some ⟨b,j+f.offset,none⟩))) w:=by
   intro b j hb;simp[execOp,hb,Instr.fieldAt,run_underlying z8,y9,Instr.sureAddr,fieldPlace,run_sizeOf w hinf,hz,Mk]
  simp only[Bj] at he;split at he
  ·rename_i o g e c hc;obtain⟨v,Cw,e1,e2,e3⟩:=Jf he;cases Cw;rw[hc] at hv;generalize Fu:a.eval x=u at hv;cases hv with
   |rep _ _ hr=>cases hr
   |ref _ _ _ _ b j ob h1 h2 h3=>
    refine OpRes.pure_ hW hu (Hr b j Fu) ?_ e2 e3;rw[e1];exact .ref _ _ _ _ _ _ ob h1 h2 (fun hg=>⟨(h3 hg).1,by have:=(h3 hg).2;omega⟩)
  ·rename_i z l c hc;obtain⟨v,Cw,e1,e2,e3⟩:=Jf he;cases Cw;rw[hc] at hv;have hr:=hv.closed_rep rfl;generalize Fu:a.eval x=u at hr;cases hr with
   |dref _ _ _ b off vs g0 g1 g2 g3 gp g4=>
    refine OpRes.pure_ hW hu (Hr b (off+c) Fu) ?_ e2 e3;rw[e1,q_ks];exact .rep _ _ (.dref z l (c+f.offset) b off vs g0 g1 g2 g3 gp g4)
  ·rename_i gi c hc;obtain⟨v,Cw,e1,e2,e3⟩:=Jf he;cases Cw;rw[hc] at hv;have hr:=hv.closed_rep rfl;generalize Fu:a.eval x=u at hr;cases hr with
   |gp _ _ b hb hpb=>
    refine OpRes.pure_ hW hu (Hr b c Fu) ?_ e2 e3;rw[e1];exact .rep _ _ (.gp gi (c+f.offset) b hb hpb)
  ·cases he
 |field t x i=>
  simp only[Br,q_c,q_a] at tr;obtain⟨f,hf,ag,Gh,tr⟩:=tr;split at tr;rotate_left
  ·cases tr
  rename_i h1;simp only[q_a,q_d,q_b] at tr;obtain⟨ax,Bb,rfl⟩:=tr;have hv:=hx x (by simp[Op.operands]) ax Bb;simp only[Bj] at he;split at he;rotate_left
  ·cases he
  rename_i b l hc;cases he;rw[hc] at hv;obtain⟨v,r1,r2⟩:=Avg (P:=P) (w:=w) hf Gh h1 hob hv;exact OpRes.pure_ hW hu (by simp[execOp,r1]) r2 rfl trivial
 |indexAddr t x i=>
  simp only[Br,q_c,q_a] at tr;obtain⟨e,Gb,tr⟩:=tr;split at tr;rotate_left
  ·cases tr
  rename_i Dw;simp only[q_a,q_d,q_b] at tr;obtain⟨ax,Bb,ai,Xw,rfl⟩:=tr;have Io:P.underlying t=some (.slice e):=by
   unfold Ls at Gb;split at Gb
   ·rename_i Oa;cases Gb;exact Oa
   ·cases Gb
  simp only[Bj] at he;split at he;rotate_left
  ·cases he
  rename_i p v hp;cases he;obtain⟨u,r1,r2⟩:=Axc (P:=P) (w:=w) hu Io Dw hp hob (hx x (by simp[Op.operands]) ax Bb) (hx i (by simp[Op.operands]) ai Xw) Db;exact OpRes.pure_ hW hu (by simp[execOp,r1]) r2 rfl trivial
 |index t x i=>
  simp only[Br] at tr;split at tr;rotate_left
  ·cases tr
  rename_i ht;simp only[q_c,q_a,q_d,q_b] at tr;obtain⟨ax,Bb,ai,Xw,rfl⟩:=tr;have hv:=hx x (by simp[Op.operands]) ax Bb;have hi:=hx i (by simp[Op.operands]) ai Xw;simp only[Bj] at he;split at he
  ·rename_i b k n hc hn;cases he;rw[hc] at hv;rw[hn] at hi;have h1:=Zz hv;have h2:=Lk hi;obtain⟨Tg,hnl⟩:=hob;have hb:b[n.toNat]?=some (b.data.getD n.toNat 0):=by
    have hl:n.toNat<b.data.size:=hnl;show (if h:n.toNat<b.size then some (b[n.toNat]'h) else none)=_;rw[dif_pos hnl];congr 1;rw[Array.getD_eq_getD_getElem?,Array.getElem?_eq_getElem hl];rfl
   refine OpRes.pure_ (v:=.int .u8 (Uv b n.toNat)) hW hu ?_ (.rep _ _ (.int _ _)) rfl trivial;simp[execOp,Instr.index,h1,h2,asIntOf,run_underlying ht,Tg,hb,Uv]
  ·cases he
 |extract x i=>
  simp only[Br,q_e] at tr;obtain⟨ax,Bb,rfl⟩:=tr;have hv:=hx x (by simp[Op.operands]) ax Bb;simp only[Bj] at he;split at he;rotate_left
  ·cases he
  rename_i l hc;split at he;rotate_left
  ·cases he
  rename_i r hr;obtain⟨v,Cw,e1,e2,e3⟩:=Jf he;cases Cw;rw[hc] at hv;have Cu:=hv.tup_rep;generalize Fu:a.eval x=u at Cu;cases Cu with
  |tup vs _ g1 g2=>
   have Aq:i<vs.length:=by
    rw[g1];rcases q_jo i l.length with h|h
    ·exact h
    ·rw[q_jd h] at hr;cases hr
   have Gj:vs[i]?=some vs[i]:=q_f Aq;refine OpRes.pure_ (v:=vs[i]) hW hu (by simp[execOp,Fu,Instr.extract,Aq]) ?_ e2 e3;rw[e1];exact .rep _ _ (g2 i _ r Gj hr)
 |call c=>
  obtain⟨callee,args,argTypes⟩:=c;simp only[Br] at tr;split at tr
  ·rename_i x Fs;have Px:args=#[x]:=by simpa using congrArg List.toArray Fs
   subst Px;have Hr:∀v,(Builtin.len_ argTypes ty #[a.eval x]).run P w=.ok v w->(execOp a.eval { dst:=dst,op:=.call { callee:=.builtin .len,args:=#[x],argTypes:=argTypes },type:=ty,pos:=pos,after:=after,guard:=guard }).run P w=.ok (.value v) w:=by
    intro v hv;simp[execOp,resolve,invoke,builtin,hv]
   have hv:=hx x (by simp[Op.operands,Call.operands]);have key:∀(st:Bool) (ax:AX),trX x=some ax->aop=.len st ax->(st=false/\(∃e,P.underlying (argTypes.getD 0 0)=some (.slice e))\/st=true/\P.underlying (argTypes.getD 0 0)=some .string)->0<argTypes.size ->
     OpRes P (execOp a.eval { dst:=dst,op:=.call { callee:=.builtin .len,args:=#[x],argTypes:=argTypes },type:=ty,pos:=pos,after:=after,guard:=guard }) U w0 own E w eff:=by
    intro st ax Bb haop Tr Cf;subst haop;simp only[Bj] at he;obtain⟨v,r1,r2,r3,r4⟩:=Ax7 (P:=P) (w:=w) (ty:=ty) rfl Cf Tr he (hv ax Bb);exact OpRes.pure_ hW hu (Hr v r1) r2 r3 r4
   split at tr
   ·cases tr
   rename_i Cf;split at tr
   ·rename_i e hk;simp only[q_e] at tr;obtain⟨ax,Bb,rfl⟩:=tr;exact key false ax Bb rfl (.inl ⟨rfl,e,hk⟩) (by omega)
   ·rename_i hk;simp only[q_e] at tr;obtain⟨ax,Bb,rfl⟩:=tr;exact key true ax Bb rfl (.inr ⟨rfl,hk⟩) (by omega)
   ·cases tr
  ·rename_i sx x Fs;have Px:args=#[sx,x]:=by simpa using congrArg List.toArray Fs
   subst Px;simp only[q_c,q_a] at tr;obtain⟨e,Gb,z,hz,tr⟩:=tr;split at tr;rotate_left
   ·cases tr
   rename_i hc;obtain⟨c1,c2,c3⟩:=hc;simp only[q_a,q_d,q_b] at tr;obtain⟨as,has,ax,Bb,rfl⟩:=tr;have Io:P.underlying (argTypes.getD 0 0)=some (.slice e):=by
    unfold Ls at Gb;split at Gb
    ·rename_i Oa;cases Gb;exact Oa
    ·cases Gb
   simp only[Bj] at he;obtain⟨v,w',E',r1,r2,r3,r4,r5⟩:=An3 (P:=P) (s:=s) (ty:=ty) hW hu (fun h=>hn (by simp only[Hd,h])) Io hz c3 c2 he hob (hx sx (by simp[Op.operands,Call.operands]) as has) (hx x (by simp[Op.operands,Call.operands]) ax Bb)
    (fun i hi=>Db i (List.mem_append_left _ hi)) (fun i hi=>Db i (List.mem_append_right _ hi))
   rw[<-c1] at r1;exact⟨v,w',E',.inl (by simp[execOp,resolve,invoke,builtin,r1]),r2,r3,r4,r5⟩
  ·rename_i x y Fs;have Px:args=#[x,y]:=by simpa using congrArg List.toArray Fs
   subst Px;simp only[q_c,q_a,q_d,q_b] at tr;obtain⟨ax,Bb,ay,Ev,rfl⟩:=tr;have h1:=hx x (by simp[Op.operands,Call.operands]) ax Bb;have h2:=hx y (by simp[Op.operands,Call.operands]) ay Ev;simp only[Bj] at he;split at he;rotate_left
   ·cases he
   rename_i k n k' m Jl hn2;obtain⟨v,Cw,e1,e2,e3⟩:=Jf he;cases Cw;rw[Jl] at h1;rw[hn2] at h2;refine OpRes.pure_ hW hu (v:=.int k (if m > n then m else n)) (by simp[execOp,resolve,invoke,builtin,Builtin.max_,Builtin.max2,Lk h1,Lk h2]) ?_ e2 e3;rw[e1];exact .rep _ _ (.int _ _)
  ·rename_i x y Fs;have Px:args=#[x,y]:=by simpa using congrArg List.toArray Fs
   subst Px;simp only[q_c,q_a,q_d,q_b] at tr;obtain⟨ax,Bb,ay,Ev,rfl⟩:=tr;have h1:=hx x (by simp[Op.operands,Call.operands]) ax Bb;have h2:=hx y (by simp[Op.operands,Call.operands]) ay Ev;simp only[Bj] at he;split at he;rotate_left
   ·cases he
   rename_i k n k' m Jl hn2;obtain⟨v,Cw,e1,e2,e3⟩:=Jf he;cases Cw;rw[Jl] at h1;rw[hn2] at h2;refine OpRes.pure_ hW hu (v:=.int k (if m<n then m else n)) (by simp[execOp,resolve,invoke,builtin,Builtin.min_,Builtin.min2,Lk h1,Lk h2]) ?_ e2 e3;rw[e1];exact .rep _ _ (.int _ _)
  ·split at tr
   ·split at tr
    ·simp only[q_e] at tr;obtain⟨xs,_,htr⟩:=tr;split at htr<;>· subst htr;simp[Bj] at he
    ·cases tr
   ·cases tr
  ·simp only[q_e] at tr;obtain⟨xs,_,rfl⟩:=tr;simp[Bj] at he
  ·cases tr
 |makeInterface t x=>
  simp only[Br] at tr;split at tr;rotate_left
  ·cases tr
  rename_i fs Mt;split at tr;rotate_left
  ·cases tr
  simp only[q_e] at tr;obtain⟨ax,Bb,rfl⟩:=tr;have hv:=hx x (by simp[Op.operands]) ax Bb;simp only[Bj] at he;split at he;rotate_left
  ·cases he
  rename_i hc;obtain⟨v,Cw,e1,e2,e3⟩:=Jf he;cases Cw;rw[hc] at hv;have Fu:a.eval x=.agg #[]:=by
   have:=hv.closed_rep rfl;generalize a.eval x=u at this;cases this with
   |agg vs l h0 h1 h2=>
    have:vs=[]:=q_ky.1 (by simpa using h1);subst this;rfl
  refine OpRes.pure_ (v:=.iface t (.agg #[])) hW hu ?_ (by rw[e1];exact .rep _ _ (.ife t)) e2 e3;simp[execOp,Fu,Instr.makeInterface,run_underlying Mt]
 |makeMap t r=>
  cases r with
  |none=>simp only[Br,q_b] at tr;subst tr;simp[Hx] at Ct
  |some r=>simp[Br] at tr
 |panic x=>
  simp only[Br,q_e] at tr;obtain⟨ax,Bb,rfl⟩:=tr;simp[Hx] at Ct
 |_=>simp[Br] at tr
end
end Go.Proofs.YtgfehkhcmnfpaaaGreatDoor.Abs
