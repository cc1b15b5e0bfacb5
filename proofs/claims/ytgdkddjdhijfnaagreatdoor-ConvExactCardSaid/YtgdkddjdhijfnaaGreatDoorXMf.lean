import Derived.Test.YtgdkddjdhijfnaaGreatDoorXMb
set_option linter.all false
set_option maxRecDepth 20000
set_option maxHeartbeats 4000000
namespace Go.Proofs.YtgdkddjdhijfnaaGreatDoor.Abs
open Go Go.RowKit Go.Proofs.YtgdkddjdhijfnaaGreatDoor
mutual
def dpt:Tm->Nat
 |.mk k _ _ _ l=>Oa k 0 l
def Oa(k:Int)(p:Nat):List Tm->Nat
 |[]=>0
 |t::l=>max (bnd k p+dpt t) (Oa k (p+1) l)
end
def A2z{k:Int}{t:Tm}:∀{l:List Tm} {q p:Nat},l[p]?=some t->bnd k (q+p)+dpt t<=Oa k q l:=by
 intro l
 induction l with
 |nil=>intro q p h;cases h
 |cons u l ih=>
  intro q p h;rw[Oa];cases p with
  |zero=>simp only[q_jv,q_b] at h;subst h;rw[q_jp];omega
  |succ p=>
   rw[q_kf] at h;have:=ih (q:=q+1) h;rw[show q+1+p=q+(p+1) by omega] at this;omega
def Lu{k i j n:Int}{l:List Tm}{p:Nat}{t:Tm}(h:l[p]?=some t):bnd k p+dpt t<=dpt (.mk k i j n l):=by
 have:=A2z (k:=k) (q:=0) h;rw[q_jg] at this
 rwa [dpt]
inductive Sf:Nat->Tm->Prop
 |var {b i:Nat} (h:i<b):Sf b (vT i)
 |nd {b:Nat} {k:Int} (i j n:Int) {l:List Tm} (h2:k≠2) (h0:k≠0) (hf:fit i/\fit j/\fit n) (hl:(l.length:Int)=Bv k n) (hk:∀(p:Nat) t,l[p]?=some t->Sf (b+bnd k p) t):Sf b (.mk k i j n l)
def Sf.wf{b:Nat}{t:Tm}(h:Sf b t):Wf b t:=by
 induction h with
 |var h=>exact .var h
 |nd i j n h2 h0 hf hl _ ih=>exact .nd i j n h2 h0 hf hl ih
def Sf.kid{b:Nat}{k i j n:Int}{l:List Tm}(h:Sf b (.mk k i j n l)){p:Nat}{t:Tm}(ht:l[p]?=some t):Sf (b+bnd k p) t:=by
 cases h with
 |var h=>cases ht
 |nd i j n _ _ _ _ hk=>exact hk p t ht
def Sf.node{b:Nat}{k i j n:Int}{l:List Tm}(h:Sf b (.mk k i j n l))(h2:k≠2):k≠0/\(fit i/\fit j/\fit n)/\(l.length:Int)=Bv k n:=by
 cases h with
 |var h=>exact absurd rfl h2
 |nd i j n _ h0 hf hl _=>exact⟨h0,hf,hl⟩
def Sf.vr{b:Nat}{i j n:Int}{l:List Tm}(h:Sf b (.mk 2 i j n l)):∃q:Nat,i=(q:Int)/\j=0/\n=0/\l=[]/\q<b:=by
 cases h with
 |var h=>exact⟨_,rfl,rfl,rfl,rfl,h⟩
 |nd i j n h2=>exact absurd rfl h2
def cap:Nat:=1099511627776
inductive Ge where
 |cl (t:Tm) (es:List Tm)
 |dn (v:Vl) (T:Tm)
 |kp (row:List SV)
abbrev Gh:=List (Option Ge)
def Ge.den(n:Nat):Ge->Tm
 |.cl t es=>Bc es n t
 |.dn _ T=>T
 |.kp _=>fT 0
def den(Γ:Gh)(id n:Nat):Tm:=match Γ[id]? with
 |some (some g)=>g.den n
 |_=>fT 0
def Kr{Γ:Gh}{id n:Nat}{g:Ge}(h:Γ[id]?=some (some g)):den Γ id n=g.den n:=by unfold den;rw[h]
def Gx(Γ Γ':Gh):Prop:=∃Δ,Γ'=Γ++Δ
def Gx.refl(Γ:Gh):Gx Γ Γ:=⟨[],by simp⟩
def Gx.trans{a b c:Gh}(h:Gx a b)(k:Gx b c):Gx a c:=by
 obtain⟨d,rfl⟩:=h;obtain⟨e,rfl⟩:=k;exact⟨d++e,by simp⟩
def Gx.app(Γ Δ:Gh):Gx Γ (Γ++Δ):=⟨Δ,rfl⟩
def Gx.len{Γ Γ':Gh}(h:Gx Γ Γ'):Γ.length<=Γ'.length:=by obtain⟨d,rfl⟩:=h;simp
def Gx.get{Γ Γ':Gh}(h:Gx Γ Γ'){id:Nat}{x:Option Ge}(hx:Γ[id]?=some x):Γ'[id]?=some x:=by
 obtain⟨d,rfl⟩:=h;rw[q_jf (Dh hx)];exact hx
def Gx.den{Γ Γ':Gh}(h:Gx Γ Γ'){id n:Nat}{g:Ge}(hx:Γ[id]?=some (some g)):den Γ' id n=den Γ id n:=by rw[Kr hx,Kr (h.get hx)]
def Ec(Γ:Gh)(k:Int):Nat->List Nat->List Tm
 |_,[]=>[]
 |p,id::l=>den Γ id (bnd k p)::Ec Γ k (p+1) l
def Pz{Γ:Gh}{k:Int}:∀{l:List Nat} {p:Nat},(Ec Γ k p l).length=l.length:=by
 intro l
 induction l with
 |nil=>intro p;rfl
 |cons a l ih=>intro p;simp[Ec,ih]
def Oo{Γ:Gh}{k:Int}:∀{l:List Nat} {p q:Nat},(Ec Γ k p l)[q]?=(l[q]?).map fun id=>den Γ id (bnd k (p+q)):=by
 intro l
 induction l with
 |nil=>intro p q;simp[Ec]
 |cons a l ih=>
  intro p q;cases q with
  |zero=>simp[Ec]
  |succ q=>rw[Ec,q_kf,q_kf,ih,show p+1+q=p+(q+1) by omega]
def TV(Γ:Gh)(v:Vl):Tm:=if v.k=2 then fT v.level else .mk v.k v.i v.j v.n (Ec Γ v.k 0 v.kids)
def Hp{Γ:Gh}{v:Vl}(h:v.k≠2):TV Γ v=.mk v.k v.i v.j v.n (Ec Γ v.k 0 v.kids):=by unfold TV;rw[if_neg h]
def TV_k{Γ:Gh}{v:Vl}(h:v.k≠2):(TV Γ v).k=v.k:=by rw[Hp h];rfl
def Agj{Γ:Gh}{v:Vl}(h:v.k≠2){p id:Nat}(Br:v.kids[p]?=some id):Ap (TV Γ v) p=den Γ id (bnd v.k p):=by
 rw[Hp h];unfold Ap;rw[show (Tm.mk v.k v.i v.j v.n (Ec Γ v.k 0 v.kids)).kids=Ec Γ v.k 0 v.kids from rfl,q_j,Oo,Br,q_jg];rfl
def Ge.Ok(n:Nat):Ge->Prop
 |.cl t es=>(∀u∈es,Wf 0 u)/\(∃B,Sf B t/\B+dpt t<=cap)/\es.length+n+dpt t<=cap
 |.dn _ T=>n=0/\Wf 0 T
 |.kp _=>False
def Ge.Ok.wf{n:Nat}{g:Ge}(h:g.Ok n):Wf n (g.den n):=by
 cases g with
 |cl t es=>obtain⟨h1,⟨B,h2,_⟩,_⟩:=h;exact Aqx h1 h2.wf n
 |dn v T=>obtain⟨rfl,h⟩:=h;exact h
 |kp row=>exact h.elim
inductive VOK(Γ:Gh):Vl->Prop
 |fv (l:Int) (hl:-(cap:Int)-1<=l/\l<=cap):VOK Γ ⟨2,0,0,0,l,[]⟩
 |nd {k i j n:Int} {kids:List Nat} (h2:k≠2) (h0:k≠0) (hf:fit i/\fit j/\fit n) (hl:(kids.length:Int)=Bv k n) (hk:∀(p:Nat) id,kids[p]?=some id->∃g,Γ[id]?=some (some g)/\g.Ok (bnd k p)):VOK Γ ⟨k,i,j,n,0,kids⟩
def VOK.wf{Γ:Gh}{v:Vl}(h:VOK Γ v):Wf 0 (TV Γ v):=by
 cases h with
 |fv l _=>exact .fv _ _
 |nd h2 h0 hf hl hk=>
  rw[Hp h2];refine .nd _ _ _ h2 h0 hf (by rw[Pz];exact hl) (fun p t ht=>?_);rw[Oo] at ht;cases hq:(Vl.mk _ _ _ _ 0 _).kids[p]? with
  |none=>rw[hq] at ht;cases ht
  |some id=>
   rw[hq,q_jh,q_b] at ht;subst ht;obtain⟨g,hg,ho⟩:=hk p id hq;rw[q_jg,q_jg,Kr hg];exact ho.wf
def VOK.mono{Γ Γ':Gh}(x:Gx Γ Γ'){v:Vl}(h:VOK Γ v):VOK Γ' v:=by
 cases h with
 |fv l hl=>exact .fv l hl
 |nd h2 h0 hf hl hk=>exact .nd h2 h0 hf hl (fun p id h=>by obtain⟨g,hg,ho⟩:=hk p id h;exact⟨g,x.get hg,ho⟩)
def El{Γ Γ':Gh}(x:Gx Γ Γ'){v:Vl}(h:VOK Γ v):TV Γ' v=TV Γ v:=by
 cases h with
 |fv l hl=>rfl
 |@nd k i j n kids h2 h0 hf hl hk=>
  rw[Hp h2,Hp h2];congr 1;apply List.ext_getElem?;intro q;rw[Oo,Oo];cases hq:(Vl.mk k i j n 0 kids).kids[q]? with
  |none=>rfl
  |some id=>
   obtain⟨g,hg,_⟩:=hk q id hq;simp only[q_jh,x.den hg]
inductive Vst(Γ:Gh):Vl->Prop
 |base {v:Vl} (h:stk v.k=none):Vst Γ v
 |step {v y:Vl} {p id:Nat} (hp:stk v.k=some p) (Br:v.kids[p]?=some id) (hg:Γ[id]?=some (some (.dn y (TV Γ y)))) (hv:VOK Γ y) (hy:Vst Γ y):Vst Γ v
def Vst.mono{Γ Γ':Gh}(x:Gx Γ Γ'){v:Vl}(h:Vst Γ v):Vst Γ' v:=by
 induction h with
 |base h=>exact .base h
 |step hp Br hg hv _ ih=>exact .step hp Br (by rw[El x hv];exact x.get hg) (hv.mono x) ih
structure WOK(Γ:Gh)(v:Vl):Prop where
 ok:VOK Γ v
 st:Vst Γ v
 hn:HN plW (TV Γ v)
def WOK.mono{Γ Γ':Gh}(x:Gx Γ Γ'){v:Vl}(h:WOK Γ v):WOK Γ' v:=⟨h.ok.mono x,h.st.mono x,by rw[El x h.ok];exact h.hn⟩
structure EOK(Γ:Gh)(K:Nat)(e:List Nat)(es:List Tm):Prop where
 len:e.length=es.length
 at_:∀(q i:Nat),e[q]?=some i->i<K/\∃g,Γ[i]?=some (some g)/\g.Ok 0/\es[q]?=some (g.den 0)
def EOK.mono{Γ Γ':Gh}(x:Gx Γ Γ'){K K':Nat}(hK:K<=K'){e:List Nat}{es:List Tm}(h:EOK Γ K e es):EOK Γ' K' e es:=
 ⟨h.len,fun q i hq=>by obtain⟨h1,g,h2,h3⟩:=h.at_ q i hq;exact⟨by omega,g,x.get h2,h3⟩⟩
def EOK.wf{Γ:Gh}{K:Nat}{e:List Nat}{es:List Tm}(h:EOK Γ K e es):∀u∈es,Wf 0 u:=by
 intro u hu;obtain⟨q,hq,rfl⟩:=List.getElem_of_mem hu;have Nn:q<e.length:=by rw[h.len];exact hq
 obtain⟨_,g,_,ho,h3⟩:=h.at_ q e[q] (q_f Nn);rw[q_f hq,q_b] at h3;rw[h3];exact ho.wf
def EOK.push{Γ:Gh}{K:Nat}{e:List Nat}{es:List Tm}(h:EOK Γ K e es){i:Nat}{g:Ge}(hi:i<K)(hg:Γ[i]?=some (some g))(ho:g.Ok 0):EOK Γ K (i::e) (g.den 0::es):=by
 refine⟨by simp[h.len],fun q j hq=>?_⟩;cases q with
 |zero=>simp only[q_jv,q_b] at hq;subst hq;exact⟨hi,g,hg,ho,rfl⟩
 |succ q=>exact h.at_ q j hq
def ThOK(G:GV)(Γ:Gh)(id:Nat)(th:Th):Ge->Prop
 |.cl t es=>G[id]?=some (thR th)/\th.bare=false/\th.t=t/\EOK Γ id th.env es/\(∀v,th.w=some v->WOK Γ v/\∃n,HR plW n (Bc es 0 t) (TV Γ v))
 |.dn y T=>G[id]?=some (thR th)/\th.bare=true/\th.w=some y/\WOK Γ y/\T=TV Γ y
 |.kp row=>G[id]?=some row/\th.v=none
structure Mc where
 steps:Nat
 most:Nat
 seen:Nat
 guess:Nat
def Mc.row(M:Mc)(j:Nat):List SV:=Bx M.steps M.most M.seen M.guess j
structure Sy where
 nm:List UInt8
 ps:List Tm
 ty:Tm
 bd:Tm
 df:Bool
def Sy.row(s:Sy):List SV:=.str (bs s.nm)::.dsl 5 (s.ps.map tv)::(tv s.ty++(tv s.bd++[.bool s.df]))
abbrev SyT:=Int->Int->Int->Option Sy
def SyT.B(S:SyT)(n i j:Int):Option Tm:=(S n i j).bind fun s=>if s.df then some s.bd else none
def EntOK(S:SyT)(G:GV)(Γ:Gh)(p:K3×SV):Prop:=
 (S p.1.1 p.1.2.1 p.1.2.2=none/\p.2=.nilp)\/∃s id,S p.1.1 p.1.2.1 p.1.2.2=some s/\p.2=.gp id 0/\Γ[id]?=some none/\G[id]?=some s.row
def VC(S:SyT)(Γ:Gh)(th:Th)(g:Ge):Prop:=∀v,th.v=some v->WOK Γ v/\HN (plD S.B) (TV Γ v)/\∃n,HR (plD S.B) n (g.den 0) (TV Γ v)
structure RInv(S:SyT)(m j:Nat)(G:GV)(Γ:Gh)(M:Mc):Prop where
 len:G.length=Γ.length
 mc:G[m]?=some (M.row j)
 gm:Γ[m]?=some none
 gj:Γ[j]?=some none
 mj:m≠j
 map:∃l,G[j]?=some (It l)/\(∀p∈l,EntOK S G Γ p)
 rows:∀id g,Γ[id]?=some (some g)->∃th,ThOK G Γ id th g/\VC S Γ th g
 st:M.steps<=M.most
 mo:M.most<=1000000000
 se:M.seen<=8000001
 gu:M.guess<=3000
open Go Go.RowKit Go.Proofs.YtgdkddjdhijfnaaGreatDoor
def Abj{a b c:Int}:Wn (.agg true [.int .i64 a,.int .i64 b,.int .i64 c])=some (a,b,c):=q_z
def flat3{a b c:SV}:([[a],[b],[c]]:GV).flatten=[a,b,c]:=rfl
def At9{G:GV}{m j:Nat}{steps most seen guess n i j':Int}{l:List (K3×SV)}{p:K3×SV}(hm:G[m]?=some (Bx steps most seen guess j))(hj:G[j]?=some (It l))(hf:l.find? (fun p=>p.1==(n,i,j'))=some p)(hk:ok3 (n,i,j'))
  (hv:p.2=.nilp\/∃id,p.2=.gp id 0):Am 99 G [.gp m 0,.int .i64 n,.int .i64 i,.int .i64 j'] (.ret p.2) G:=by
 have hfd:Sx (n,i,j') (l.map ent)=some (some p.2):=by rw[Abo,hf];rfl
 obtain⟨k,v⟩:=p;simp only at hv hfd |-;have Iy:G[j]?=some (SV.undef::l.map ent):=hj;refine Bh mixed Tryz.func99 tr99 ?_;rcases hv with rfl|⟨id,rfl⟩<;>simp only[go_sem,seval,hm,Bx,Iy,Abj,flat3,hfd,hk,Option.isSome_some]
def Arr{l:List (K3×SV)}{k:K3}{v:SV}:SV.undef::(l.map ent++[.tup [Wo k,v]])=It (l++[(k,v)]):=by simp[It,ent]
section
variable{o n:Nat}
def Bfh{a b:Nat}:Dk o n (.gp a b)=.gp a b:=rfl
def Bfi{k:IntKind}{a:Int}:Dk o n (.int k a)=.int k a:=rfl
def Bff{b:Bool}:Dk o n (.bool b)=.bool b:=rfl
def Bfr:Dk o n .undef=.undef:=rfl
def Bfl:Dk o n .nilp=.nilp:=rfl
def Bfj{a:Nat}:Dk o n (.mp a)=.mp a:=rfl
def Bfe{b:Bool}{l:List SV}:Dk o n (.agg b l)=.agg b l:=rfl
def Bfq{l:List SV}:Dk o n (.tup l)=.tup l:=rfl
def Bfn{c:Nat}:Dk 2 n (.ref 1 0 0 c)=.ref 1 0 0 c:=rfl
def Bfo{c:Nat}:Dk 2 n (.ref 2 0 0 c)=.gp n c:=rfl
attribute [go_sem] Bfh Bfi Bff Bfr Bfl Bfj Bfe Bfq Bfn Bfo
end
def noSy:List SV:=[.str (bs []),.nils,.int .i64 0,.int .i64 0,.int .i64 0,.int .i64 0,.nils,.int .i64 0,.int .i64 0,.int .i64 0,.int .i64 0,.nils,.bool false]
def Bdq:noSy.length=13:=rfl
def Bit{G:GV}{m j:Nat}{steps most seen guess n i j':Int}{l:List (K3×SV)}(hm:G[m]?=some (Bx steps most seen guess j))(hj:G[j]?=some (It l))(hf:l.find? (fun p=>p.1==(n,i,j'))=none)(hk:ok3 (n,i,j'))(hmj:m≠j)
  (hA:Con 117 [.int .i64 n,.int .i64 i,.int .i64 j'] (.tup [.agg true noSy,.bool false])) :
  Am 99 G [.gp m 0,.int .i64 n,.int .i64 i,.int .i64 j'] (.ret .nilp) (G.set j (It (l++[((n,i,j'),.nilp)]))):=by
 have hfd:Sx (n,i,j') (l.map ent)=some none:=by rw[Abo,hf];rfl
 have Iy:G[j]?=some (SV.undef::l.map ent):=hj;refine Bh mixed Tryz.func99 tr99 ?_;simp only[go_sem,seval,hm,Bx,Iy,Abj,flat3,hfd,hk,Option.isSome_none];refine Af hA ?_;simp only[go_sem,seval,Bdq,hm,Bx,Iy,Abj,flat3,hfd,hk,Arr]
def Bis{G:GV}{m j:Nat}{steps most seen guess n i j':Int}{l:List (K3×SV)}{r:List SV}(hm:G[m]?=some (Bx steps most seen guess j))(hj:G[j]?=some (It l))(hf:l.find? (fun p=>p.1==(n,i,j'))=none)(hk:ok3 (n,i,j'))(hmj:m≠j)(hr:r.length=13)
  (hA:Con 117 [.int .i64 n,.int .i64 i,.int .i64 j'] (.tup [.agg true r,.bool true])) :
  Am 99 G [.gp m 0,.int .i64 n,.int .i64 i,.int .i64 j'] (.ret (.gp G.length 0)) ((G++[r]).set j (It (l++[((n,i,j'),.gp G.length 0)]))):=by
 have hfd:Sx (n,i,j') (l.map ent)=some none:=by rw[Abo,hf];rfl
 have Iy:G[j]?=some (SV.undef::l.map ent):=hj;refine A9t mixed Tryz.func99 tr99 ?_;simp only[go_sem,seval];refine p7 ?_;simp only[go_sem,seval];refine⟨_,.refl _,p7 ?_⟩;simp only[go_sem,seval,flat3];refine⟨_,.refl _,p7 ?_⟩;simp only[go_sem,seval,hm,Bx,Iy,Abj,hfd,hk,Option.isSome_none];refine⟨_,.refl _,Bkg (p7 ?_)⟩;simp only[go_sem,seval];refine⟨_,.refl _,Bki rfl (p7 ?_)⟩;simp only[go_sem,seval];refine Af hA ?_;simp only[go_sem,seval,hr];refine⟨_,.refl _,p7 ?_⟩;simp only[go_sem,seval];refine⟨_,.promo _ 2 _ G r rfl rfl rfl rfl rfl rfl (by intro e;rw[e] at hr;cases hr) (by simp) (by simp[Rl,Jr]) (fun q ob' h1 h2 h3 h4=>?_),Ak4 ?_⟩
 ·match q,h1 with
  |0,h1=>cases h1;cases h3
  |1,h1=>cases h1;cases h4
  |2,_=>exact absurd rfl h2
  |q+3,h1=>simp at h1
 have Ag:j<G.length:=Dh hj;have hlm:m<G.length:=Dh hm;simp only[go_sem,seval,Nd,hm,Bx,Iy,Ag,hlm,Abj,hfd,hk,Arr];refine⟨_,.refl _,Ak4 ?_⟩;simp only[go_sem,seval]
def ThOK.mono{G G':GV}{Γ Γ':Gh}{id:Nat}{th:Th}{g:Ge}(h:ThOK G Γ id th g)(x:Gx Γ Γ')(hG:G'[id]?=G[id]?):ThOK G' Γ' id th g:=by
 cases g with
 |cl t es=>
  obtain⟨h1,h2,h3,h4,h5⟩:=h;exact⟨by rw[hG];exact h1,h2,h3,h4.mono x (q_ja _),fun v hv=>by obtain⟨w,n,hr⟩:=h5 v hv;exact⟨w.mono x,n,by rw[El x w.ok];exact hr⟩⟩
 |dn y T=>
  obtain⟨h1,h2,h3,h4,h5⟩:=h;exact⟨by rw[hG];exact h1,h2,h3,h4.mono x,by rw[h5,El x h4.ok]⟩
 |kp row=>exact⟨by rw[hG];exact h.1,h.2⟩
def ThOK.row{G:GV}{Γ:Gh}{id n:Nat}{th:Th}{g:Ge}(h:ThOK G Γ id th g)(ho:g.Ok n):G[id]?=some (thR th):=by
 cases g with
 |cl t es=>exact h.1
 |dn y T=>exact h.1
 |kp row=>exact ho.elim
def RInv.keep{S:SyT}{m j:Nat}{G:GV}{Γ:Gh}{M:Mc}(h:RInv S m j G Γ M){id:Nat}{row:List SV}(hg:Γ[id]?=some (some (.kp row))):G[id]?=some row:=by
 obtain⟨th,h1,_⟩:=h.rows id _ hg;exact h1.1
def VC.mono{S:SyT}{Γ Γ':Gh}{th:Th}{g:Ge}(h:VC S Γ th g)(x:Gx Γ Γ'):VC S Γ' th g:=fun v hv=>by
 obtain⟨w,hn,n,hr⟩:=h v hv;exact⟨w.mono x,by rw[El x w.ok];exact hn,n,by rw[El x w.ok];exact hr⟩
def EntOK.mono{S:SyT}{G G':GV}{Γ Γ':Gh}{p:K3×SV}(h:EntOK S G Γ p)(x:Gx Γ Γ')(hG:∀(s:Sy) (id:Nat),Γ[id]?=some none->G[id]?=some s.row->G'[id]?=some s.row):EntOK S G' Γ' p:=by
 rcases h with h|⟨s,id,h1,h2,h3,h4⟩
 ·exact .inl h
 ·exact .inr ⟨s,id,h1,h2,x.get h3,hG s id h3 h4⟩
def Bg7{s:Sy}{M:Mc}{j:Nat}:s.row≠M.row j:=by unfold Sy.row Mc.row Bx;simp
def Bg8{s:Sy}{l:List (K3×SV)}:s.row≠It l:=by unfold Sy.row It;simp
section
variable{S:SyT}{m j:Nat}{G:GV}{Γ:Gh}{M:Mc}
def RInv.mach(h:RInv S m j G Γ M)(M':Mc)(st:M'.steps<=M'.most)(mo:M'.most<=1000000000)(se:M'.seen<=8000001)(gu:M'.guess<=3000):RInv S m j (G.set m (M'.row j)) Γ M':=by
 obtain⟨l,hl,hE⟩:=h.map;refine⟨by rw[q_ki];exact h.len,Ex h.mc,h.gm,h.gj,h.mj,⟨l,by rw[q_jc h.mj];exact hl,fun p hp=>EntOK.mono (hE p hp) (.refl Γ) (fun s id h1 h2=>?_)⟩,fun id g hg=>?_,st,mo,se,gu⟩
 ·rw[q_jc (fun e=>?_)]
  ·exact h2
  ·subst e;rw[h.mc,q_b] at h2;exact Bg7 h2.symm
 ·obtain⟨th,h1,h2⟩:=h.rows id g hg;refine⟨th,h1.mono (.refl Γ) ?_,h2⟩;rw[q_jc (fun e=>?_)];subst e;rw[h.gm] at hg;cases hg
def RInv.set(h:RInv S m j G Γ M){id:Nat}{g:Ge}(hg:Γ[id]?=some (some g)){th':Th}(ho:ThOK (G.set id (thR th')) Γ id th' g)(hv:VC S Γ th' g):RInv S m j (G.set id (thR th')) Γ M:=by
 have hm:id≠m:=fun e=>by subst e;rw[h.gm] at hg;cases hg
 have hj:id≠j:=fun e=>by subst e;rw[h.gj] at hg;cases hg
 obtain⟨l,hl,hE⟩:=h.map;refine⟨by rw[q_ki];exact h.len,by rw[q_jc hm];exact h.mc,h.gm,h.gj,h.mj,⟨l,by rw[q_jc hj];exact hl,fun p hp=>EntOK.mono (hE p hp) (.refl Γ) (fun s id' h1 h2=>?_)⟩,fun id' g' Fo=>?_,h.st,h.mo,h.se,h.gu⟩
 ·rw[q_jc (fun e=>?_)]
  ·exact h2
  ·subst e;rw[hg] at h1;cases h1
 ·by_cases e:id=id'
  ·subst e;rw[hg,q_b,q_b] at Fo;subst Fo;exact⟨th',ho,hv⟩
  ·obtain⟨th,h1,h2⟩:=h.rows id' g' Fo;exact⟨th,h1.mono (.refl Γ) (q_jc e),h2⟩
def RInv.push(h:RInv S m j G Γ M){th:Th}{g:Ge}(ho:ThOK (G++[thR th]) (Γ++[some g]) G.length th g)(hv:th.v=none):RInv S m j (G++[thR th]) (Γ++[some g]) M:=by
 have lt:∀{id:Nat} {r:List SV},G[id]?=some r->(G++[thR th])[id]?=some r:=fun h=>by rw[q_jf (Dh h)];exact h
 obtain⟨l,hl,hE⟩:=h.map;refine⟨by simp[h.len],lt h.mc,(Gx.app _ _).get h.gm,(Gx.app _ _).get h.gj,h.mj,⟨l,lt hl,fun p hp=>EntOK.mono (hE p hp) (.app _ _) (fun s id' h1 h2=>lt h2)⟩,fun id' g' Fo=>?_,h.st,h.mo,h.se,h.gu⟩;rcases q_jo id' Γ.length with Ag|Fy
 ·rw[q_jf Ag] at Fo;obtain⟨th,h1,h2⟩:=h.rows id' g' Fo;exact⟨th,h1.mono (.app _ _) (by rw[q_jf (by rw[h.len];exact Ag)]),h2.mono (.app _ _)⟩
 ·have:id'=G.length:=by
   have:=Dh Fo;simp at this;rw[h.len];omega
  subst this;rw[h.len] at Fo;simp only[List.getElem?_concat_length,q_b] at Fo;subst Fo;exact⟨th,ho,fun v e=>by rw[hv] at e;cases e⟩
def EOK.top{Γ:Gh}{K:Nat}{e:List Nat}{es:List Tm}(h:EOK Γ K e es):EOK Γ Γ.length e es:=
 ⟨h.len,fun q i hq=>by obtain⟨_,g,h2,h3⟩:=h.at_ q i hq;exact⟨Dh h2,g,h2,h3⟩⟩
def RInv.pushCl(h:RInv S m j G Γ M){t:Tm}{e:List Nat}{es:List Tm}{K:Nat}(he:EOK Γ K e es)(hK:K<=G.length):RInv S m j (G++[thR ⟨t,e,false,none,none⟩]) (Γ++[some (.cl t es)]) M:=
 h.push ⟨by simp,rfl,rfl,he.mono (.app _ _) hK,fun v hv=>by cases hv⟩ rfl
def RInv.pushDn(h:RInv S m j G Γ M){y:Vl}(hy:WOK Γ y):RInv S m j (G++[Eo (some y) none]) (Γ++[some (.dn y (TV Γ y))]) M:=by
 unfold Eo;exact h.push ⟨by simp,rfl,rfl,hy.mono (.app _ _),by rw[El (.app _ _) hy.ok]⟩ rfl
def Uq(k:Int)(y:Option Vl)(T:Tm)(es:List Tm)(i:Nat)(kid:Tm):Ge:=if (i:Int)=k then (match y with
 |some v=>.dn v T
 |none=>.cl kid es) else .cl kid es
def Nu(k:Int)(y:Option Vl)(T:Tm)(es:List Tm):Nat->List Tm->Gh
 |_,[]=>[]
 |i,x::l=>some (Uq k y T es i x)::Nu k y T es (i+1) l
def Bds{k:Int}{y:Option Vl}{T:Tm}{es:List Tm}:∀{l:List Tm} {i q:Nat},(Nu k y T es i l)[q]?=(l[q]?).map fun kid=>some (Uq k y T es (i+q) kid):=by
 intro l
 induction l with
 |nil=>intro i q;simp[Nu]
 |cons a l ih=>
  intro i q;cases q with
  |zero=>simp[Nu]
  |succ q=>rw[Nu,q_kf,q_kf,ih,show i+1+q=i+(q+1) by omega]
def RInv.node{k:Int}{y:Option Vl}{T:Tm}{e:List Nat}{es:List Tm}:∀{l:List Tm} {i:Nat} {G:GV} {Γ:Gh} {K:Nat},RInv S m j G Γ M->EOK Γ K e es->K<=G.length->(∀v,y=some v->WOK Γ v/\T=TV Γ v)->(y=none->k<0) ->
  RInv S m j (G++He k y e i l) (Γ++Nu k y T es i l) M:=by
 intro l
 induction l with
 |nil=>intro i G Γ K h _ _ _ _;simpa [He,Nu] using h
 |cons a l ih=>
  intro i G Γ K h he hK hy hn;have key:RInv S m j (G++[n8 k y e i a]) (Γ++[some (Uq k y T es i a)]) M:=by
   unfold n8 Uq;split
   ·rename_i hik;cases y with
    |none=>have:=hn rfl;omega
    |some v=>
     obtain⟨h1,h2⟩:=hy v rfl;subst h2;exact h.pushDn h1
   ·exact h.pushCl he hK
  have:=ih (i:=i+1) (K:=K) key (he.mono (.app _ _) (q_ja _)) (by simp;omega) (fun v hv=>by
   obtain⟨h1,h2⟩:=hy v hv;exact⟨h1.mono (.app _ _),by rw[El (.app _ _) h1.ok];exact h2⟩) hn
  rw[He,Nu];simpa [q_ju] using this
def Afm{a n q:Nat}:(List.range' a n)[q]?=if q<n then some (a+q) else none:=by
 split
 ·rename_i h;rw[q_f (by simpa using h),List.getElem_range'];simp
 ·rename_i h;rw[q_jd (by simp;omega)]
def Ae3{k:Int}{y:Option Vl}{T:Tm}{es:List Tm}{l:List Tm}{q:Nat}{t:Tm}(ht:l[q]?=some t):(Γ++Nu k y T es 0 l)[Γ.length+q]?=some (some (Uq k y T es q t)):=by
 rw[q_jj (by omega),show Γ.length+q - Γ.length=q by omega,Bds,ht,q_jh,q_jg]
def Agv{k:Int}{p:Nat}(h:stk k=some p):bnd k p=0:=by
 unfold stk at h;unfold bnd Cf;split at h
 ·cases h;rw[if_neg (by omega),if_neg (by omega),if_neg (by omega)];rfl
 ·split at h
  ·cases h;rw[if_neg (by omega),if_neg (by omega),if_pos (by omega)];rfl
  ·cases h
def Wl{k:Int}(h2:k≠2)(h0:k≠0)(es:List Tm)(b:Nat)(i j n:Int)(l:List Tm):Bc es b (.mk k i j n l)=.mk k i j n (trL (ivI es) (fun _ l=>fT l) b k 0 l):=Ev h2 h0 b i j n l
def Bdv{k' i' j' n':Int}(h2:k'≠2)(h0:k'≠0){es:List Tm}{l:List Tm}{T:Tm}:TV (Γ++Nu (-1) none T es 0 l) (Kl k' i' j' n' l Γ.length)=Bc es 0 (.mk k' i' j' n' l):=by
 rw[Hp (show (Kl k' i' j' n' l Γ.length).k≠2 from h2),Wl h2 h0];unfold Kl;congr 1;apply List.ext_getElem?;intro q;rw[Oo,Fm,Afm];cases hq:l[q]? with
 |none=>rw[if_neg (by have:=q_ld.1 hq;omega)];rfl
 |some t=>
  rw[if_pos (Dh hq),q_jh,q_jh,Kr (Ae3 hq)];unfold Uq;rw[if_neg (by omega)];simp only[Ge.den,q_jg];rfl
def Abp{k' i' j' n':Int}(h2:k'≠2)(h0:k'≠0){es:List Tm}{l:List Tm}{T:Tm}{p:Nat}(hp:stk k'=some p){y:Vl} :
  TV (Γ++Nu p (some y) T es 0 l) (Kl k' i' j' n' l Γ.length)=Cd (Bc es 0 (.mk k' i' j' n' l)) p T:=by
 rw[Hp (show (Kl k' i' j' n' l Γ.length).k≠2 from h2),Wl h2 h0];unfold Kl Cd;simp only[Tm.k,Tm.i,Tm.j,Tm.n,Tm.kids];congr 1;apply List.ext_getElem?;intro q;rw[Oo,Afm];cases hq:l[q]? with
 |none=>
  have:=q_ld.1 hq;rw[if_neg (by omega),q_jd (by rw[q_ki,Mu];omega)];rfl
 |some t=>
  rw[if_pos (Dh hq),q_jh,Kr (Ae3 hq)];unfold Uq
  by_cases e:p=q
  ·subst e;rw[if_pos rfl,q_jq (by rw[Mu];exact Dh hq)];rfl
  ·rw[if_neg (by omega),q_jc e,Fm,hq,q_jh];simp only[Ge.den,q_jg];rfl
def Ar5{k' i' j' n':Int}{es:List Tm}{l:List Tm}{T:Tm}{k:Int}{y:Option Vl}{B:Nat}(h2:k'≠2)(hw:∀u∈es,Wf 0 u)(hs:Sf B (.mk k' i' j' n' l))(hB:B+dpt (.mk k' i' j' n' l)<=cap)(hE:es.length+dpt (.mk k' i' j' n' l)<=cap)(hT:y≠none->Wf 0 T/\stk k'=some k.toNat) :
  VOK (Γ++Nu k y T es 0 l) (Kl k' i' j' n' l Γ.length):=by
 obtain⟨h0,hf,hl⟩:=hs.node h2;refine .nd h2 h0 hf (by rw[List.length_range'];exact hl) (fun p id Br=>?_);rw[Afm] at Br;split at Br
 ·rename_i Ag;cases Br;have ht:l[p]?=some l[p]:=q_f Ag;refine⟨_,Ae3 ht,?_⟩;have hd:=Lu (k:=k') (i:=i') (j:=j') (n:=n') ht;have hcl:(Ge.cl l[p] es).Ok (bnd k' p):=⟨hw,⟨B+bnd k' p,hs.kid ht,by omega⟩,by omega⟩
  unfold Uq;split
  ·rename_i Sl;cases y with
   |none=>exact hcl
   |some v=>
    obtain⟨h3,h4⟩:=hT (by simp);rw[<-Sl,q_kt] at h4;exact⟨Agv h4,h3⟩
  ·exact hcl
 ·cases Br
def Ad5{T:Tm}(h:stk T.k=none):HN plW T:=by
 refine .mk ?_ (fun p hp=>by rw[h] at hp;cases hp);unfold stk at h;have h1:¬(T.k=15\/T.k=18\/T.k=19):=fun c=>by rw[if_pos c] at h;cases h
 rw[if_neg h1] at h;have h3:¬T.k=22:=fun c=>by rw[if_pos c] at h;cases h
 unfold plW;rw[if_neg (by omega),if_neg (by omega),if_neg (by omega),if_neg (by omega)]
def Bdw{k' i' j' n':Int}{es:List Tm}{l:List Tm}{T:Tm}{B:Nat}(h2:k'≠2)(hk:stk k'=none)(hw:∀u∈es,Wf 0 u)(hs:Sf B (.mk k' i' j' n' l))(hB:B+dpt (.mk k' i' j' n' l)<=cap)(hE:es.length+dpt (.mk k' i' j' n' l)<=cap) :
  WOK (Γ++Nu (-1) none T es 0 l) (Kl k' i' j' n' l Γ.length):=by
 refine⟨Ar5 h2 hw hs hB hE (fun h=>absurd rfl h),.base hk,Ad5 ?_⟩;rw[TV_k (show (Kl k' i' j' n' l Γ.length).k≠2 from h2)];exact hk
def Ae4{k' i' j' n':Int}{es:List Tm}{l:List Tm}{y:Vl}{B p:Nat}(hp:stk k'=some p)(Sj:p<l.length)(hy:WOK Γ y)(hw:∀u∈es,Wf 0 u)(hs:Sf B (.mk k' i' j' n' l))(hB:B+dpt (.mk k' i' j' n' l)<=cap)(hE:es.length+dpt (.mk k' i' j' n' l)<=cap)
  (hN:plW (Cd (Bc es 0 (.mk k' i' j' n' l)) p (TV Γ y))=none) :
  WOK (Γ++Nu p (some y) (TV Γ y) es 0 l) (Kl k' i' j' n' l Γ.length):=by
 have h2:k'≠2:=by have:=(Mr hp).1;omega
 have h0:k'≠0:=by have:=(Mr hp).1;omega
 refine⟨Ar5 h2 hw hs hB hE (fun _=>⟨hy.ok.wf,by rw[q_kt];exact hp⟩),?_,?_⟩
 ·refine .step (y:=y) (p:=p) (id:=Γ.length+p) hp (by show (List.range' Γ.length l.length)[p]?=_;rw[Afm,if_pos Sj]) ?_ (hy.ok.mono (.app _ _)) (hy.st.mono (.app _ _));rw[Ae3 (q_f Sj),El (.app _ _) hy.ok];unfold Uq;rw[if_pos rfl]
 ·rw[Abp h2 h0 hp];refine .mk hN (fun q hq=>?_);rw[Akj,Wl h2 h0,show ∀l:List Tm,(Tm.mk k' i' j' n' l).k=k' from fun _=>rfl,hp] at hq;cases hq;rw[Abk (by rw[Wl h2 h0];show p<(trL _ _ _ _ _ l).length;rw[Mu];exact Sj)];exact hy.hn
end
def Sz:SV:=.ife 48
def Tn:SV:=.ife 123
structure Mle(M M':Mc):Prop where
 most:M'.most=M.most
 steps:M.steps<=M'.steps
 seen:M'.seen=M.seen
 guess:M.guess=0->M'.guess=0
def Mle.refl(M:Mc):Mle M M:=⟨rfl,q_ja _,rfl,id⟩
def Mle.trans{a b c:Mc}(h:Mle a b)(k:Mle b c):Mle a c:=⟨k.most.trans h.most,q_kp h.steps k.steps,k.seen.trans h.seen,fun g=>k.guess (h.guess g)⟩
inductive Post(S:SyT)(P:Tm->Option Tm)(m j:Nat)(Γ:Gh)(M:Mc)(T:Tm):HOut->GV->Prop
 |ret {G':GV} {Γ':Gh} {M':Mc} {v:Vl} {n:Nat} (x:Gx Γ Γ') (hi:RInv S m j G' Γ' M') (mm:Mle M M') (hv:WOK Γ' v) (hn:HN P (TV Γ' v)) (hr:HR P n T (TV Γ' v)) (hs:M'.steps<=M.steps+n):Post S P m j Γ M T (.ret (vlV v)) G'
 |out {G':GV} {Γ':Gh} {M':Mc} (x:Gx Γ Γ') (hi:RInv S m j G' Γ' M') (mm:Mle M M') (h:∀N Y,HR P N T Y->HN P Y->M.most<M.steps+N):Post S P m j Γ M T (.pan Sz) G'
 |far {G':GV} {Γ':Gh} {M':Mc} (x:Gx Γ Γ') (hi:RInv S m j G' Γ' M') (mm:Mle M M') (hg:0<M.guess):Post S P m j Γ M T (.pan Tn) G'
section
variable{S:SyT}{P:Tm->Option Tm}{m j:Nat}{Γ Γ1:Gh}{M M1:Mc}{T U:Tm}{out:HOut}{G G':GV}
def Post.outV(h:Post S P m j Γ M T out G'):Ql out:=by
 cases h with
 |ret=>exact⟨_,rfl⟩
 |out=>trivial
 |far=>trivial
def Mle.pos(h:Mle M M1)(g:0<M1.guess):0<M.guess:=by
 have:=h.guess;omega
def Post.pre{n:Nat}(hr:HR P n T U)(x:Gx Γ Γ1)(mm:Mle M M1)(hs:M1.steps<=M.steps+n)(h:Post S P m j Γ1 M1 U out G'):Post S P m j Γ M T out G':=by
 cases h with
 |ret x1 hi m1 hv hn Cq Fk=>exact .ret (x.trans x1) hi (mm.trans m1) hv hn (We hr Cq) (by omega)
 |out x1 hi m1 h=>exact .out (x.trans x1) hi (mm.trans m1) (fun N Y hN hY=>by
   obtain⟨h1,h2⟩:=Aee hN hY hr;have:=h _ _ h2 hY;have:=mm.most;omega)
 |far x1 hi m1 hg=>exact .far (x.trans x1) hi (mm.trans m1) (mm.pos hg)
def Post.kid{p:Nat}{x:SV}(ax:Ax P)(hp:stk T.k=some p)(hl:p<T.kids.length)(h:Post S P m j Γ M (Ap T p) (.pan x) G'):Post S P m j Γ M T (.pan x) G':=by
 cases h with
 |out x1 hi m1 h=>exact .out x1 hi m1 (fun N Y hN hY=>by
   obtain⟨N1,g,h1,h2,h3,_⟩:=Aqa ax hp hl hN hY;have:=h _ _ h2 h3;omega)
 |far x1 hi m1 hg=>exact .far x1 hi m1 hg
inductive Zb(S:SyT)(m j:Nat)(Γ:Gh)(M:Mc):HOut->GV->Prop
 |ret {G':GV} {M':Mc} (hi:RInv S m j G' Γ M') (mm:Mle M M') (hs:M.steps<M.most) (h1:M'.steps=M.steps+1):Zb S m j Γ M (.ret (.tup [])) G'
 |out {G':GV} {M':Mc} (hi:RInv S m j G' Γ M') (mm:Mle M M') (hs:M.most<=M.steps):Zb S m j Γ M (.pan Sz) G'
 |far {G':GV} {M':Mc} (hi:RInv S m j G' Γ M') (mm:Mle M M') (hg:0<M.guess):Zb S m j Γ M (.pan Tn) G'
def Adi(g:Nat):Sa (g:Int)=((g-1:Nat):Int):=by unfold Sa;split<;>omega
def Ux(h:RInv S m j G Γ M):∃out G',Am 101 G [.gp m 0] out G'/\Zb S m j Γ M out G':=by
 have hm:=h.mc;obtain⟨steps,most,seen,guess⟩:=M;have Dn:=h.st;have Pt:=h.mo;have Ga:=h.se;have Bw:=h.gu;simp only at Dn Pt Ga Bw;unfold Mc.row at hm;simp only at hm;have hf:fit (guess:Int):=by unfold fit;omega
 by_cases h1:guess=1
 ·subst h1;exact⟨_,_,A9l hm,.far (h.mach ⟨steps,most,seen,0⟩ Dn Pt Ga (by simp)) ⟨rfl,q_ja _,rfl,fun _=>rfl⟩ (by simp)⟩
 have hg:(guess:Int)≠1:=by omega
 by_cases h2:steps<most
 ·refine⟨_,_,A9k hm hf hg (by omega) (by unfold fit;omega),?_⟩;rw[Adi];exact .ret (h.mach ⟨steps+1,most,seen,guess-1⟩ (by simp only;omega) Pt Ga (by simp only;omega)) ⟨rfl,by simp only;omega,rfl,fun g=>by simp only at g |-;omega⟩ h2 rfl
 ·refine⟨_,_,A9m hm hf hg (by omega),?_⟩;rw[Adi];exact .out (h.mach ⟨steps,most,seen,guess-1⟩ Dn Pt Ga (by simp only;omega)) ⟨rfl,q_ja _,rfl,fun g=>by simp only at g |-;omega⟩ (by simp only;omega)
def Post.take{n:Nat}{W:Tm}{x:SV}(hr:HR P n T U)(x1:Gx Γ Γ1)(mm:Mle M M1)(hs:M1.steps<=M.steps+n)(hu:HS P U W)(h:Zb S m j Γ1 M1 (.pan x) G'):Post S P m j Γ M T (.pan x) G':=by
 cases h with
 |out hi m1 hm=>exact .out x1 hi (mm.trans m1) (fun N Y hN hY=>by
   obtain⟨h1,h2⟩:=Aee hN hY hr;have:N-n≠0:=fun e=>by
    rw[e] at h2;cases h2;exact Yg hY hu
   have:=mm.most;omega)
 |far hi m1 hg=>exact .far x1 hi (mm.trans m1) (mm.pos hg)
end
def EvT(S:SyT)(m j F K:Nat)(t:Tm):Prop:=∀{G:GV} {Γ:Gh} {M:Mc} {e:List Nat} {es:List Tm},RInv S m j G Γ M->M.most<=M.steps+F->EOK Γ K e es->(∃B,Sf B t/\B+dpt t<=cap)->es.length+dpt t<=cap ->
 ∃out G',EvL G m t e out G'/\Post S plW m j Γ M (Bc es 0 t) out G'
def Agf{S:SyT}{m j F id:Nat}(he:∀t,EvT S m j F id t){G:GV}{Γ:Gh}{M:Mc}{g:Ge}(h:RInv S m j G Γ M)(hF:M.most<=M.steps+F)(hg:Γ[id]?=some (some g))(ho:g.Ok 0) :
  ∃out G',Am 79 G [.gp m 0,.gp id 0] out G'/\Post S plW m j Γ M (g.den 0) out G':=by
 obtain⟨th,h1,h2⟩:=h.rows id g hg;cases g with
 |kp row=>exact ho.elim
 |dn y T=>
  obtain⟨k1,k2,k3,k4,rfl⟩:=h1;exact⟨_,_,Au2 k1 k3,.ret (.refl Γ) h (.refl M) k4 k4.hn (.refl _) (q_ja _)⟩
 |cl t es=>
  obtain⟨k1,k2,k3,k4,k5⟩:=h1;cases hw:th.w with
  |some v=>
   obtain⟨w,n,hr⟩:=k5 v hw;exact⟨_,_,Au2 k1 hw,.ret (.refl Γ) h (.refl M) w w.hn hr (by omega)⟩
  |none=>
   obtain⟨o1,o2,o3⟩:=ho;subst k3;obtain⟨out,G1,e1,p1⟩:=he th.t h hF k4 o2 (by omega);cases p1 with
   |@ret _ Γ1 M1 v n x hi mm hv hn hr hs=>
    obtain⟨th1,t1,t2⟩:=hi.rows id _ (x.get hg);obtain⟨q1,q2,q3,q4,q5⟩:=t1;refine⟨_,_,Bks k1 hw k2 (Fs e1) q1,.ret x (hi.set (g:=.cl th.t es) (x.get hg) ⟨Ex q1,q2,q3,q4,fun v' Bq=>?_⟩ (fun v' Bq=>t2 v' Bq)) mm hv hn hr hs⟩;simp only[q_b] at Bq;subst Bq;exact⟨hv,n,hr⟩
   |out x hi mm h'=>exact⟨_,_,Au3 k1 hw k2 (Fs e1),.out x hi mm h'⟩
   |far x hi mm h'=>exact⟨_,_,Au3 k1 hw k2 (Fs e1),.far x hi mm h'⟩
def VOK.kid{Γ:Gh}{v:Vl}(h:VOK Γ v)(h2:v.k≠2){p:Nat}(hp:(p:Int)<Bv v.k v.n):∃id g,v.kids[p]?=some id/\Γ[id]?=some (some g)/\g.Ok (bnd v.k p)/\Ap (TV Γ v) p=g.den (bnd v.k p):=by
 cases h with
 |fv l _=>exact absurd rfl h2
 |@nd k i j n kids _ h0 hf hl hk=>
  have Ag:p<kids.length:=by
   have e:Bv k n=kids.length:=hl.symm;simp only[e] at hp;omega
  obtain⟨g,hg,ho⟩:=hk p kids[p] (q_f Ag);refine⟨kids[p],g,q_f Ag,hg,ho,?_⟩;rw[Agj h2 (show (Vl.mk k i j n 0 kids).kids[p]?=some kids[p] from q_f Ag),Kr hg]
def Aud{l:List Int}{c:Int}(h:∀x∈l,x<=c)(hc:-1<=c)(k:Int):tab l k<=c:=by
 unfold tab;split
 ·rw[q_j];cases hq:l[(k-1).toNat]? with
  |none=>exact hc
  |some x=>exact h x (q_jb hq)
 ·exact hc
def Py(k n:Int):Bv k n<=12:=by
 unfold Bv Wv;split
 ·exact Aud (by decide) (by decide) n
 ·exact Aud (by decide) (by decide) k
def k_ne{k c i j n:Int}{l:List Tm}(h:k≠c):¬(Tm.mk k i j n l).k=c:=h
def stk2:stk 2=none:=by decide
def stk0:stk 0=none:=by decide
def kids14(n:Int):Bv 14 n=2:=q_z
def kids15(n:Int):Bv 15 n=2:=q_z
def kids17(n:Int):Bv 17 n=4:=q_z
def kids18(n:Int):Bv 18 n=1:=q_z
def kids19(n:Int):Bv 19 n=1:=q_z
def kids22(n:Int):Bv 22 n=6:=q_z
def len1{α:Type}{l:List α}(h:l.length=1):∃a,l=[a]:=by
 match l,h with
 |[a],_=>exact⟨a,rfl⟩
def len2{α:Type}{l:List α}(h:l.length=2):∃a b,l=[a,b]:=by
 match l,h with
 |[a,b],_=>exact⟨a,b,rfl⟩
def len6{α:Type}{l:List α}(h:l.length=6):∃a b c d e f,l=[a,b,c,d,e,f]:=by
 match l,h with
 |[a,b,c,d,e,f],_=>exact⟨a,b,c,d,e,f,rfl⟩
section
variable{S:SyT}{m j F K:Nat}
def Bg6(hK:∀K',K'<K->∀t,EvT S m j F K' t)(i j' n:Int)(l:List Tm):EvT S m j F K (.mk 2 i j' n l):=by
 intro G Γ M e es hI hF he hs hE;obtain⟨B,hs,hB⟩:=hs;obtain⟨q,rfl,rfl,rfl,rfl,hq⟩:=hs.vr;have hc:cap=1099511627776:=rfl;have Eb:fit (q:Int):=by unfold fit;omega
 have hT:Bc es 0 (.mk 2 q 0 0 [])=ivI es 0 q:=Cz 0 q;have Av:=he.len;rw[hT];unfold ivI;rw[if_neg (by omega),q_kr];cases hi:e[q]? with
 |some id=>
  obtain⟨h1,g,h2,h3,h4⟩:=he.at_ q id hi;obtain⟨out,G',w1,w2⟩:=Agf (hK id h1) hI hF h2 h3;rw[h4];exact⟨out,G',A7p Eb hi w1 w2.outV,w2⟩
 |none=>
  have hle:e.length<=q:=q_ld.1 hi;rw[q_jd (by omega)];refine⟨_,_,A7h Eb hi (by unfold fit;omega),.ret (n:=0) (.refl Γ) hI (.refl M) ⟨.fv _ (by omega),.base stk2,Ad5 stk0⟩ (Ad5 stk0) ?_ (by omega)⟩;rw[Av];exact .refl _
def Bg3{k:Int}(h2:k≠2)(hk:stk k=none)(i j' n:Int)(l:List Tm):EvT S m j F K (.mk k i j' n l):=by
 intro G Γ M e es hI hF he hs hE;obtain⟨B,hs,hB⟩:=hs;obtain⟨h0,hf,hl⟩:=hs.node h2;have h4:k≠15/\k≠18/\k≠19/\k≠22:=by
  unfold stk at hk;have h1:¬(k=15\/k=18\/k=19):=fun c=>by rw[if_pos c] at hk;cases hk
  rw[if_neg h1] at hk;have h3:¬k=22:=fun c=>by rw[if_pos c] at hk;cases hk
  omega
 have Ck:l.length*56<=140737488355328:=by
  have:=Py k n;omega
 have hn:=hI.node (T:=vT 0) (k:=-1) (y:=none) (l:=l) (i:=0) (K:=Γ.length) he.top (by rw[hI.len];exact q_ja _) (fun v h=>by cases h) (fun _=>by omega);have hw:=Bdw (Γ:=Γ) (T:=vT 0) h2 hk he.wf hs hB hE;have hT:=Bdv (Γ:=Γ) (T:=vT 0) (i':=i) (j':=j') (n':=n) h2 h0 (es:=es) (l:=l);rw[<-hI.len] at hw hT;refine⟨_,_,A7m Ck h2 h4,.ret (n:=0) (.app _ _) hn (.refl M) hw hw.hn ?_ (by omega)⟩;rw[hT];exact .refl _
def Bg1(Pj:∀F',F'<F->∀K t,EvT S m j F' K t){f a:Tm}(hf:EvT S m j F K f)(i j' n:Int):EvT S m j F K (.mk 15 i j' n [f,a]):=by
 intro G Γ M e es hI hF he hs hE;obtain⟨B,hs,hB⟩:=hs;have d0:=Lu (k:=15) (i:=i) (j:=j') (n:=n) (l:=[f,a]) (p:=0) rfl;have d1:=Lu (k:=15) (i:=i) (j:=j') (n:=n) (l:=[f,a]) (p:=1) rfl;have b0:bnd 15 0=0:=by decide
 have b1:bnd 15 1=0:=by decide
 have s0:Sf B f:=by have:=hs.kid (p:=0) rfl;rwa [b0,q_jp] at this
 have s1:Sf B a:=by have:=hs.kid (p:=1) rfl;rwa [b1,q_jp] at this
 have hT:Bc es 0 (.mk 15 i j' n [f,a])=.mk 15 i j' n [Bc es 0 f,Bc es 0 a]:=by rw[Wl (by decide) (by decide)];rfl
 have Uj:=he.wf;obtain⟨out,G1,e1,p1⟩:=hf hI hF he ⟨B,s0,by omega⟩ (by omega);cases p1 with
 |out x hi mm h=>rw[hT];exact⟨_,_,Aoa (Fs e1),.kid (p:=0) axW rfl (by simp[Tm.kids]) (.out x hi mm h)⟩
 |far x hi mm h=>rw[hT];exact⟨_,_,Aoa (Fs e1),.kid (p:=0) axW rfl (by simp[Tm.kids]) (.far x hi mm h)⟩
 |@ret _ Γ1 M1 y n1 x hi mm hv hn hr Fk=>
 have Cq:HR plW n1 (Bc es 0 (.mk 15 i j' n [f,a])) (.mk 15 i j' n [TV Γ1 y,Bc es 0 a]):=by rw[hT];exact Aa7 axW hr (t:=.mk 15 i j' n [Bc es 0 f,Bc es 0 a]) (p:=0) rfl (by simp[Tm.kids]) rfl
 have Ty:EOK Γ1 Γ1.length e es:=(he.mono x (q_ja _)).top
 by_cases yk:y.k=14
 ·have y2:y.k≠2:=by omega
  obtain⟨id,g,Br,hg,ho,hk⟩:=hv.ok.kid (p:=1) y2 (by rw[yk,kids14];decide);rw[yk] at ho hk;have hu:HS plW (.mk 15 i j' n [TV Γ1 y,Bc es 0 a]) (Bc [Bc es 0 a] 0 (Ap (TV Γ1 y) 1)):=by
   refine .here ?_;unfold plW;rw[if_pos ⟨rfl,by rw[show Ap (.mk 15 i j' n [TV Γ1 y,Bc es 0 a]) 0=TV Γ1 y from rfl,TV_k y2];exact yk⟩];rfl
  obtain⟨out,G2,t1,t2⟩:=Ux hi;cases t2 with
  |out hi2 mm2 h2=>exact⟨_,_,Aob (Fs e1) yk t1,.take Cq x mm Fk hu (.out hi2 mm2 h2)⟩
  |far hi2 mm2 h2=>exact⟨_,_,Aob (Fs e1) yk t1,.take Cq x mm Fk hu (.far hi2 mm2 h2)⟩
  |@ret _ M2 hi2 mm2 h2 h3=>
   cases g with
   |kp row=>exact ho.elim
   |dn v T=>exact absurd ho.1 (by decide)
   |cl tb eb=>
    obtain⟨th,t1',_⟩:=hi2.rows id _ hg;obtain⟨q1,q2,q3,q4,_⟩:=t1';subst q3;obtain⟨o1,o2,o3⟩:=ho;have hc:cap=1099511627776:=rfl;have hb14:bnd 14 1=1:=by decide
    have Av:=q4.len;have oka:(Ge.cl a es).Ok 0:=⟨Uj,⟨B,s1,by omega⟩,by omega⟩
    have hp:=hi2.pushCl (t:=a) Ty (by rw[hi2.len];exact q_ja _);have hen:EOK (Γ1++[some (.cl a es)]) (Γ1.length+1) (Γ1.length::th.env) (Bc es 0 a::eb):=
     (q4.top.mono (.app _ _) (Nat.le_succ _)).push (g:=.cl a es) (Nat.lt_succ_self _) (by simp) oka
    have Ps:=mm.most;have hm2:=mm.steps;have Wc:=mm2.most;have g9:=mm2.steps;have Xq:F-1<F:=by omega
    obtain⟨out,G3,e3,p3⟩:=Pj (F-1) Xq (Γ1.length+1) th.t hp (by omega) hen o2 (by simp only[q_jk];omega);rw[<-hi2.len] at e3;refine⟨_,_,A7f (Fs e1) yk Br t1 q1 q2 (by unfold fit;omega) e3,p3.pre (n:=n1+1) ?_ (x.trans (.app _ _)) (mm.trans mm2) (by omega)⟩;refine We Cq (.step hu ?_);rw[hk,hb14,show (Ge.cl th.t eb).den 1=Bc eb [Bc es 0 a].length th.t from rfl,Aeq o1 (by intro u hu;rw[q_kj] at hu;subst hu;exact Aqx Uj s1.wf 0)];exact .refl _
 ·have hw:=Ae4 (Γ:=Γ1) (i':=i) (j':=j') (n':=n) (p:=0) (k':=15) (l:=[f,a]) rfl (by simp) hv Uj hs hB hE (by
   rw[hT,show Cd (.mk 15 i j' n [Bc es 0 f,Bc es 0 a]) 0 (TV Γ1 y)=.mk 15 i j' n [TV Γ1 y,Bc es 0 a] from rfl];unfold plW;have:¬(TV Γ1 y).k=14:=fun c=>by
    by_cases h2:y.k=2
    ·unfold TV at c;rw[if_pos h2] at c;exact absurd c (by unfold fT;simp[Tm.k])
    ·rw[TV_k h2] at c;exact yk c
   rw[if_neg (fun c=>this c.2),if_neg (fun c=>absurd c.1 (k_ne (by decide))),if_neg (fun c=>absurd c.1 (k_ne (by decide))),if_neg (fun c=>absurd c.1 (k_ne (by decide)))])
  have Qv:=Abp (Γ:=Γ1) (T:=TV Γ1 y) (i':=i) (j':=j') (n':=n) (k':=15) (p:=0) (by decide) (by decide) (es:=es) (l:=[f,a]) rfl (y:=y);have hN:=hi.node (T:=TV Γ1 y) (k:=((0:Nat):Int)) (y:=some y) (l:=[f,a]) (i:=0) Ty (by rw[hi.len];exact q_ja _) (fun v Bq=>by cases Bq;exact⟨hv,rfl⟩) (fun h=>by cases h);rw[<-hi.len] at hw Qv;refine⟨_,_,A7g (Fs e1) yk,.ret (n:=n1) (x.trans (.app _ _)) hN mm hw hw.hn ?_ Fk⟩;rw[Qv,hT];rw[hT] at Cq;exact Cq
def Bg2(Pj:∀F',F'<F->∀K t,EvT S m j F' K t){f:Tm}(hf:EvT S m j F K f)(i j' n:Int):EvT S m j F K (.mk 18 i j' n [f]):=by
 intro G Γ M e es hI hF he hs hE;obtain⟨B,hs,hB⟩:=hs;have d0:=Lu (k:=18) (i:=i) (j:=j') (n:=n) (l:=[f]) (p:=0) rfl;have b0:bnd 18 0=0:=by decide
 have s0:Sf B f:=by have:=hs.kid (p:=0) rfl;rwa [b0,q_jp] at this
 have hT:Bc es 0 (.mk 18 i j' n [f])=.mk 18 i j' n [Bc es 0 f]:=by rw[Wl (by decide) (by decide)];rfl
 have Uj:=he.wf;obtain⟨out,G1,e1,p1⟩:=hf hI hF he ⟨B,s0,by omega⟩ (by omega);cases p1 with
 |out x hi mm h=>rw[hT];exact⟨_,_,Aoc (Fs e1),.kid (p:=0) axW rfl (by simp[Tm.kids]) (.out x hi mm h)⟩
 |far x hi mm h=>rw[hT];exact⟨_,_,Aoc (Fs e1),.kid (p:=0) axW rfl (by simp[Tm.kids]) (.far x hi mm h)⟩
 |@ret _ Γ1 M1 y n1 x hi mm hv hn hr Fk=>
 have Cq:HR plW n1 (Bc es 0 (.mk 18 i j' n [f])) (.mk 18 i j' n [TV Γ1 y]):=by rw[hT];exact Aa7 axW hr (t:=.mk 18 i j' n [Bc es 0 f]) (p:=0) rfl (by simp[Tm.kids]) rfl
 have Ty:EOK Γ1 Γ1.length e es:=(he.mono x (q_ja _)).top
 by_cases yk:y.k=17
 ·have y2:y.k≠2:=by omega
  obtain⟨id,g,Br,hg,ho,hk⟩:=hv.ok.kid (p:=2) y2 (by rw[yk,kids17];decide);rw[yk] at ho hk;have hu:HS plW (.mk 18 i j' n [TV Γ1 y]) (Ap (TV Γ1 y) 2):=by
   refine .here ?_;unfold plW;rw[if_neg (fun c=>absurd c.1 (k_ne (by decide))),if_pos ⟨rfl,by rw[show Ap (.mk 18 i j' n [TV Γ1 y]) 0=TV Γ1 y from rfl,TV_k y2];exact yk⟩];rfl
  obtain⟨out,G2,t1,t2⟩:=Ux hi;cases t2 with
  |out hi2 mm2 h2=>exact⟨_,_,Aod (Fs e1) yk t1,.take Cq x mm Fk hu (.out hi2 mm2 h2)⟩
  |far hi2 mm2 h2=>exact⟨_,_,Aod (Fs e1) yk t1,.take Cq x mm Fk hu (.far hi2 mm2 h2)⟩
  |@ret _ M2 hi2 mm2 h2 h3=>
   have Ahw:bnd 17 2=0:=by decide
   rw[Ahw] at ho hk;have Ps:=mm.most;have hm2:=mm.steps;have Wc:=mm2.most;have g9:=mm2.steps;have Xq:F-1<F:=by omega
   obtain⟨out,G3,e3,p3⟩:=Agf (Pj (F-1) Xq id) hi2 (by omega) hg ho;refine⟨_,_,A7i (Fs e1) yk Br t1 e3 p3.outV,p3.pre (n:=n1+1) ?_ x (mm.trans mm2) (by omega)⟩;refine We Cq (.step hu ?_);rw[hk];exact .refl _
 ·have hw:=Ae4 (Γ:=Γ1) (i':=i) (j':=j') (n':=n) (p:=0) (k':=18) (l:=[f]) rfl (by simp) hv Uj hs hB hE (by
   rw[hT,show Cd (.mk 18 i j' n [Bc es 0 f]) 0 (TV Γ1 y)=.mk 18 i j' n [TV Γ1 y] from rfl];unfold plW;have:¬(TV Γ1 y).k=17:=fun c=>by
    by_cases h2:y.k=2
    ·unfold TV at c;rw[if_pos h2] at c;exact absurd c (by unfold fT;simp[Tm.k])
    ·rw[TV_k h2] at c;exact yk c
   rw[if_neg (fun c=>absurd c.1 (k_ne (by decide))),if_neg (fun c=>this c.2),if_neg (fun c=>absurd c.1 (k_ne (by decide))),if_neg (fun c=>absurd c.1 (k_ne (by decide)))])
  have Qv:=Abp (Γ:=Γ1) (T:=TV Γ1 y) (i':=i) (j':=j') (n':=n) (k':=18) (p:=0) (by decide) (by decide) (es:=es) (l:=[f]) rfl (y:=y);have hN:=hi.node (T:=TV Γ1 y) (k:=((0:Nat):Int)) (y:=some y) (l:=[f]) (i:=0) Ty (by rw[hi.len];exact q_ja _) (fun v Bq=>by cases Bq;exact⟨hv,rfl⟩) (fun h=>by cases h);rw[<-hi.len] at hw Qv;refine⟨_,_,A7j (Fs e1) yk,.ret (n:=n1) (x.trans (.app _ _)) hN mm hw hw.hn ?_ Fk⟩;rw[Qv,hT];rw[hT] at Cq;exact Cq
def Bg5(Pj:∀F',F'<F->∀K t,EvT S m j F' K t){f:Tm}(hf:EvT S m j F K f)(i j' n:Int):EvT S m j F K (.mk 19 i j' n [f]):=by
 intro G Γ M e es hI hF he hs hE;obtain⟨B,hs,hB⟩:=hs;have d0:=Lu (k:=19) (i:=i) (j:=j') (n:=n) (l:=[f]) (p:=0) rfl;have b0:bnd 19 0=0:=by decide
 have s0:Sf B f:=by have:=hs.kid (p:=0) rfl;rwa [b0,q_jp] at this
 have hT:Bc es 0 (.mk 19 i j' n [f])=.mk 19 i j' n [Bc es 0 f]:=by rw[Wl (by decide) (by decide)];rfl
 have Uj:=he.wf;obtain⟨out,G1,e1,p1⟩:=hf hI hF he ⟨B,s0,by omega⟩ (by omega);cases p1 with
 |out x hi mm h=>rw[hT];exact⟨_,_,Aog (Fs e1),.kid (p:=0) axW rfl (by simp[Tm.kids]) (.out x hi mm h)⟩
 |far x hi mm h=>rw[hT];exact⟨_,_,Aog (Fs e1),.kid (p:=0) axW rfl (by simp[Tm.kids]) (.far x hi mm h)⟩
 |@ret _ Γ1 M1 y n1 x hi mm hv hn hr Fk=>
 have Cq:HR plW n1 (Bc es 0 (.mk 19 i j' n [f])) (.mk 19 i j' n [TV Γ1 y]):=by rw[hT];exact Aa7 axW hr (t:=.mk 19 i j' n [Bc es 0 f]) (p:=0) rfl (by simp[Tm.kids]) rfl
 have Ty:EOK Γ1 Γ1.length e es:=(he.mono x (q_ja _)).top
 by_cases yk:y.k=17
 ·have y2:y.k≠2:=by omega
  obtain⟨id,g,Br,hg,ho,hk⟩:=hv.ok.kid (p:=3) y2 (by rw[yk,kids17];decide);rw[yk] at ho hk;have hu:HS plW (.mk 19 i j' n [TV Γ1 y]) (Ap (TV Γ1 y) 3):=by
   refine .here ?_;unfold plW;rw[if_neg (fun c=>absurd c.1 (k_ne (by decide))),if_neg (fun c=>absurd c.1 (k_ne (by decide))),if_pos ⟨rfl,by rw[show Ap (.mk 19 i j' n [TV Γ1 y]) 0=TV Γ1 y from rfl,TV_k y2];exact yk⟩];rfl
  obtain⟨out,G2,t1,t2⟩:=Ux hi;cases t2 with
  |out hi2 mm2 h2=>exact⟨_,_,Aoh (Fs e1) yk t1,.take Cq x mm Fk hu (.out hi2 mm2 h2)⟩
  |far hi2 mm2 h2=>exact⟨_,_,Aoh (Fs e1) yk t1,.take Cq x mm Fk hu (.far hi2 mm2 h2)⟩
  |@ret _ M2 hi2 mm2 h2 h3=>
   have Ahw:bnd 17 3=0:=by decide
   rw[Ahw] at ho hk;have Ps:=mm.most;have hm2:=mm.steps;have Wc:=mm2.most;have g9:=mm2.steps;have Xq:F-1<F:=by omega
   obtain⟨out,G3,e3,p3⟩:=Agf (Pj (F-1) Xq id) hi2 (by omega) hg ho;refine⟨_,_,A7n (Fs e1) yk Br t1 e3 p3.outV,p3.pre (n:=n1+1) ?_ x (mm.trans mm2) (by omega)⟩;refine We Cq (.step hu ?_);rw[hk];exact .refl _
 ·have hw:=Ae4 (Γ:=Γ1) (i':=i) (j':=j') (n':=n) (p:=0) (k':=19) (l:=[f]) rfl (by simp) hv Uj hs hB hE (by
   rw[hT,show Cd (.mk 19 i j' n [Bc es 0 f]) 0 (TV Γ1 y)=.mk 19 i j' n [TV Γ1 y] from rfl];unfold plW;have:¬(TV Γ1 y).k=17:=fun c=>by
    by_cases h2:y.k=2
    ·unfold TV at c;rw[if_pos h2] at c;exact absurd c (by unfold fT;simp[Tm.k])
    ·rw[TV_k h2] at c;exact yk c
   rw[if_neg (fun c=>absurd c.1 (k_ne (by decide))),if_neg (fun c=>absurd c.1 (k_ne (by decide))),if_neg (fun c=>this c.2),if_neg (fun c=>absurd c.1 (k_ne (by decide)))])
  have Qv:=Abp (Γ:=Γ1) (T:=TV Γ1 y) (i':=i) (j':=j') (n':=n) (k':=19) (p:=0) (by decide) (by decide) (es:=es) (l:=[f]) rfl (y:=y);have hN:=hi.node (T:=TV Γ1 y) (k:=((0:Nat):Int)) (y:=some y) (l:=[f]) (i:=0) Ty (by rw[hi.len];exact q_ja _) (fun v Bq=>by cases Bq;exact⟨hv,rfl⟩) (fun h=>by cases h);rw[<-hi.len] at hw Qv;refine⟨_,_,A7o (Fs e1) yk,.ret (n:=n1) (x.trans (.app _ _)) hN mm hw hw.hn ?_ Fk⟩;rw[Qv,hT];rw[hT] at Cq;exact Cq
def rk_j(Pj:∀F',F'<F->∀K t,EvT S m j F' K t){a0 a1 a2 a3 a4 f:Tm}(hf:EvT S m j F K f)(i j' n:Int):EvT S m j F K (.mk 22 i j' n [a0,a1,a2,a3,a4,f]):=by
 intro G Γ M e es hI hF he hs hE;obtain⟨B,hs,hB⟩:=hs;have d0:=Lu (k:=22) (i:=i) (j:=j') (n:=n) (l:=[a0,a1,a2,a3,a4,f]) (p:=5) rfl;have d3:=Lu (k:=22) (i:=i) (j:=j') (n:=n) (l:=[a0,a1,a2,a3,a4,f]) (p:=3) rfl;have b0:bnd 22 5=0:=by decide
 have b3:bnd 22 3=0:=by decide
 have s0:Sf B f:=by have:=hs.kid (p:=5) rfl;rwa [b0,q_jp] at this
 have s3:Sf B a3:=by have:=hs.kid (p:=3) rfl;rwa [b3,q_jp] at this
 obtain⟨A2,hT⟩:∃A2,Bc es 0 (.mk 22 i j' n [a0,a1,a2,a3,a4,f])=.mk 22 i j' n [Bc es 0 a0,Bc es 0 a1,A2,Bc es 0 a3,Bc es 0 a4,Bc es 0 f]:=by rw[Wl (by decide) (by decide)];exact⟨_,rfl⟩
 have Uj:=he.wf;obtain⟨out,G1,e1,p1⟩:=hf hI hF he ⟨B,s0,by omega⟩ (by omega);cases p1 with
 |out x hi mm h=>rw[hT];exact⟨_,_,Aoe (Fs e1),.kid (p:=5) axW rfl (by simp[Tm.kids]) (.out x hi mm h)⟩
 |far x hi mm h=>rw[hT];exact⟨_,_,Aoe (Fs e1),.kid (p:=5) axW rfl (by simp[Tm.kids]) (.far x hi mm h)⟩
 |@ret _ Γ1 M1 y n1 x hi mm hv hn hr Fk=>
 have Cq:HR plW n1 (Bc es 0 (.mk 22 i j' n [a0,a1,a2,a3,a4,f])) (.mk 22 i j' n [Bc es 0 a0,Bc es 0 a1,A2,Bc es 0 a3,Bc es 0 a4,TV Γ1 y]):=by rw[hT];exact Aa7 axW hr (t:=.mk 22 i j' n [Bc es 0 a0,Bc es 0 a1,A2,Bc es 0 a3,Bc es 0 a4,Bc es 0 f]) (p:=5) rfl (by simp[Tm.kids]) rfl
 have Ty:EOK Γ1 Γ1.length e es:=(he.mono x (q_ja _)).top
 by_cases yk:y.k=21
 ·have y2:y.k≠2:=by omega
  have hu:HS plW (.mk 22 i j' n [Bc es 0 a0,Bc es 0 a1,A2,Bc es 0 a3,Bc es 0 a4,TV Γ1 y]) (Bc es 0 a3):=by
   refine .here ?_;unfold plW;rw[if_neg (fun c=>absurd c.1 (k_ne (by decide))),if_neg (fun c=>absurd c.1 (k_ne (by decide))),if_neg (fun c=>absurd c.1 (k_ne (by decide))),if_pos ⟨rfl,by rw[show Ap (.mk 22 i j' n [Bc es 0 a0,Bc es 0 a1,A2,Bc es 0 a3,Bc es 0 a4,TV Γ1 y]) 5=TV Γ1 y from rfl,TV_k y2];exact yk⟩];rfl
  obtain⟨out,G2,t1,t2⟩:=Ux hi;cases t2 with
  |out hi2 mm2 h2=>exact⟨_,_,Aof (Fs e1) yk t1,.take Cq x mm Fk hu (.out hi2 mm2 h2)⟩
  |far hi2 mm2 h2=>exact⟨_,_,Aof (Fs e1) yk t1,.take Cq x mm Fk hu (.far hi2 mm2 h2)⟩
  |@ret _ M2 hi2 mm2 h2 h3=>
   have Ps:=mm.most;have hm2:=mm.steps;have Wc:=mm2.most;have g9:=mm2.steps;have Xq:F-1<F:=by omega
   obtain⟨out,G3,e3,p3⟩:=Pj (F-1) Xq Γ1.length a3 hi2 (by omega) Ty ⟨B,s3,by omega⟩ (by omega);exact⟨_,_,A7k (Fs e1) yk t1 e3,p3.pre (n:=n1+1) (We Cq (.step hu (.refl _))) x (mm.trans mm2) (by omega)⟩
 ·have hw:=Ae4 (Γ:=Γ1) (i':=i) (j':=j') (n':=n) (p:=5) (k':=22) (l:=[a0,a1,a2,a3,a4,f]) rfl (by simp) hv Uj hs hB hE (by
   rw[hT,show Cd (.mk 22 i j' n [Bc es 0 a0,Bc es 0 a1,A2,Bc es 0 a3,Bc es 0 a4,Bc es 0 f]) 5 (TV Γ1 y)=.mk 22 i j' n [Bc es 0 a0,Bc es 0 a1,A2,Bc es 0 a3,Bc es 0 a4,TV Γ1 y] from rfl];unfold plW;have:¬(TV Γ1 y).k=21:=fun c=>by
    by_cases h2:y.k=2
    ·unfold TV at c;rw[if_pos h2] at c;exact absurd c (by unfold fT;simp[Tm.k])
    ·rw[TV_k h2] at c;exact yk c
   rw[if_neg (fun c=>absurd c.1 (k_ne (by decide))),if_neg (fun c=>absurd c.1 (k_ne (by decide))),if_neg (fun c=>absurd c.1 (k_ne (by decide))),if_neg (fun c=>this c.2)])
  have Qv:=Abp (Γ:=Γ1) (T:=TV Γ1 y) (i':=i) (j':=j') (n':=n) (k':=22) (p:=5) (by decide) (by decide) (es:=es) (l:=[a0,a1,a2,a3,a4,f]) rfl (y:=y);have hN:=hi.node (T:=TV Γ1 y) (k:=((5:Nat):Int)) (y:=some y) (l:=[a0,a1,a2,a3,a4,f]) (i:=0) Ty (by rw[hi.len];exact q_ja _) (fun v Bq=>by cases Bq;exact⟨hv,rfl⟩) (fun h=>by cases h);rw[<-hi.len] at hw Qv;refine⟨_,_,A7l (Fs e1) yk,.ret (n:=n1) (x.trans (.app _ _)) hN mm hw hw.hn ?_ Fk⟩;rw[Qv,hT];rw[hT] at Cq;exact Cq
def Bg4(Pj:∀F',F'<F->∀K t,EvT S m j F' K t)(hK:∀K',K'<K->∀t,EvT S m j F K' t)(t:Tm):EvT S m j F K t:=by
 induction t using Tm.ind with
 |h k i j' n l ih=>
 intro G Γ M e es hI hF he hs hE
 by_cases h2:k=2
 ·subst h2;exact Bg6 hK i j' n l hI hF he hs hE
 have hl:(l.length:Int)=Bv k n:=by obtain⟨B,hs,_⟩:=hs;exact (hs.node h2).2.2
 by_cases Ey:k=15
 ·subst Ey;rw[kids15] at hl;obtain⟨f,a,rfl⟩:=len2 (show l.length=2 by omega);exact Bg1 Pj (ih f (by simp)) i j' n hI hF he hs hE
 by_cases Fh:k=18
 ·subst Fh;rw[kids18] at hl;obtain⟨f,rfl⟩:=len1 (show l.length=1 by omega);exact Bg2 Pj (ih f (by simp)) i j' n hI hF he hs hE
 by_cases Fi:k=19
 ·subst Fi;rw[kids19] at hl;obtain⟨f,rfl⟩:=len1 (show l.length=1 by omega);exact Bg5 Pj (ih f (by simp)) i j' n hI hF he hs hE
 by_cases Dv:k=22
 ·subst Dv;rw[kids22] at hl;obtain⟨a0,a1,a2,a3,a4,f,rfl⟩:=len6 (show l.length=6 by omega);exact rk_j Pj (ih f (by simp)) i j' n hI hF he hs hE
 exact Bg3 h2 (by unfold stk;rw[if_neg (by omega),if_neg Dv]) i j' n l hI hF he hs hE
end
def Atf(S:SyT)(m j:Nat):∀F K t,EvT S m j F K t:=by
 intro F
 induction F using Nat.strongRecOn with
 |ind F hF=>
  intro K
  induction K using Nat.strongRecOn with
  |ind K hK=>exact Bg4 hF hK
def q8{S:SyT}{m j id:Nat}{G:GV}{Γ:Gh}{M:Mc}{g:Ge}(h:RInv S m j G Γ M)(hg:Γ[id]?=some (some g))(ho:g.Ok 0) :
  ∃out G',Am 79 G [.gp m 0,.gp id 0] out G'/\Post S plW m j Γ M (g.den 0) out G':=
 Agf (Atf S m j M.most id) h (by omega) hg ho
def An9{S:SyT}{m j K:Nat}{t:Tm}{G:GV}{Γ:Gh}{M:Mc}{e:List Nat}{es:List Tm}(h:RInv S m j G Γ M)(he:EOK Γ K e es)(hs:∃B,Sf B t/\B+dpt t<=cap)(hE:es.length+dpt t<=cap) :
  ∃out G',Am 98 G [.gp m 0,.agg true (tv t),Cj e] out G'/\Post S plW m j Γ M (Bc es 0 t) out G':=by
 obtain⟨out,G',e1,p1⟩:=Atf S m j M.most K t h (by omega) he hs hE;exact⟨out,G',Fs e1,p1⟩
def Xd(G:GV)(m:Nat)(v:Vl)(out:HOut)(G':GV):Prop:=
 ∃n,vcI (Bp Tryz.prog fun x G1=>out=.pan x/\G1=G') a81_24 (bk 0 (rtG [.t 4] out G')) n ⟨(.gp m 0::vlV v::.J::.J::.int .i64 0::Bo (Do (jk2 ([])))),[gOb G]⟩
def Tx{G G':GV}{m:Nat}{v:Vl}{out:HOut}(h:Xd G m v out G'):Am 81 G [.gp m 0,vlV v] out G':=by
 refine Bh mixed Tryz.func81 tr81 ?_;obtain⟨n,h⟩:=h;simp only[go_sem,seval];exact Cv n (Dl (Bk (by simp[Ba])) h)
def Bio{G:GV}{m:Nat}{v:Vl}(h:v.k≠23)(hs:v.k≠15/\v.k≠18/\v.k≠19/\v.k≠22){out:HOut}(ho:out=.ret (.int .i64 0)):Xd G m v out G:=by
 refine⟨1,Bd ?_⟩;simp only[go_sem,seval,vlV,Ao h];refine Af (Ans hs) ?_;subst ho;simp only[go_sem,seval]
def Bip{G G':GV}{m:Nat}{v:Vl}(h:v.k=23)(hs:Am 99 G [.gp m 0,.int .i64 v.n,.int .i64 v.i,.int .i64 v.j] (.ret .nilp) G'){out:HOut}(ho:out=.ret (.int .i64 0)):Xd G m v out G':=by
 refine⟨1,Bd ?_⟩;simp only[go_sem,seval,vlV,h];refine Ai hs ?_;subst ho;simp only[go_sem,seval]
def At8{s:Sy}:s.row.length=13:=by unfold Sy.row;simp[Ch]
def Bin {s:Sy}:Kj s.row=false:=rfl
def At7(s:Sy):∃a b t0 t1 t2 t3 t4,s.row=[a,b,t0,t1,t2,t3,t4,.int .i64 s.bd.k,.int .i64 s.bd.i,.int .i64 s.bd.j,.int .i64 s.bd.n,.dsl 5 (s.bd.kids.map tv),.bool s.df]:=by
 obtain⟨nm,ps,⟨k,i,j,n,l⟩,⟨k',i',j',n',l'⟩,df⟩:=s;unfold Sy.row;simp only[As,Tm.k,Tm.i,Tm.j,Tm.n,Tm.kids];exact⟨_,_,_,_,_,_,_,rfl⟩
def Bim{s:Sy}{cl:Bool}:cut cl 13 true 5 7 s.row=.agg cl (tv s.bd):=by
 obtain⟨a,b,t0,t1,t2,t3,t4,h⟩:=At7 s;rw[h];cases hb:s.bd with
 |mk k i j n l=>rw[As];rfl
def Bil{s:Sy}:s.row[12]?.getD .undef=.bool s.df:=by
 obtain⟨a,b,t0,t1,t2,t3,t4,h⟩:=At7 s;rw[h];rfl
attribute [go_sem] Bil At8 Bin Bim
def Bir{G G':GV}{m id:Nat}{v:Vl}{s:Sy}(h:v.k=23)(hs:Am 99 G [.gp m 0,.int .i64 v.n,.int .i64 v.i,.int .i64 v.j] (.ret (.gp id 0)) G')(hr:G'[id]?=some s.row){out:HOut}(ho:out=.ret (.int .i64 (if s.df then v.n else 0))):Xd G m v out G':=by
 refine⟨1,Bd ?_⟩;simp only[go_sem,seval,vlV,h];refine Ai hs ?_;subst ho;cases hd:s.df<;>simp only[go_sem,seval,hr,hd]
def Biq{G G':GV}{m id p:Nat}{v y:Vl}{th:Th}(hp:stk v.k=some p)(Br:v.kids[p]?=some id)(Jf:G[id]?=some (thR th))(hw:th.w=some y){out:HOut}(ih:Xd G m y out G'):Xd G m v out G':=by
 obtain⟨n,ih⟩:=ih;refine⟨n+1,Bd ?_⟩;obtain⟨k1,k2,k3,k4⟩:=Gq Br;have hk:=Mr hp;have Cs:v.k≠23:=by omega
 obtain⟨t,te,b,w,x⟩:=th;simp only at hw;subst hw;have k2':(p:Int)<v.kids.length:=by omega
 unfold stk at hp;split at hp
 ·rename_i h;cases hp;simp only[Int.ofNat_zero,Int.cast_ofNat_Int] at k2';simp only[go_sem,seval,vlV,Ao Cs];refine Af (Lq h) ?_;simp only[go_sem,seval,vlV,k1,k2',k3,k4,Jf,Qe,q_g];exact Dl (Bk (by simp[Ba,vlV])) ih
 ·split at hp
  ·rename_i h;cases hp;have h5:Con 100 [.int .i64 v.k] (.int .i64 5):=by rw[h];exact Xm
   simp only[Int.cast_ofNat_Int] at k2';simp only[go_sem,seval,vlV,Ao Cs];refine Af h5 ?_;simp only[go_sem,seval,vlV,k1,k2',k3,k4,Jf,Qe,q_g];exact Dl (Bk (by simp[Ba,vlV])) ih
  ·cases hp
def Als{G G1:GV}{m:Nat}{x y:Vl}{k:Int}{u:SV}(xk:x.k=15)(yk:y.k=14)(ht:Am 101 G [.gp m 0] (.pan u) G1) :
  Am 102 G [.gp m 0,vlV x,.int .i64 k,vlV y] (.pan u) G1:=by
 refine Bh mixed Tryz.func102 tr102 ?_;simp only[go_sem,seval,vlV,xk,yk];exact Db ht trivial ⟨rfl,rfl⟩
def Ava{G G1 G':GV}{m id ia:Nat}{x y:Vl}{k:Int}{out:HOut}{th:Th}(xk:x.k=15)(yk:y.k=14)(ht:Am 101 G [.gp m 0] (.ret (.tup [])) G1)
  (Br:y.kids[1]?=some id) (hia:x.kids[1]?=some ia) (Jf:G1[id]?=some (thR th)) (hb:th.bare=false) (hl:fit ((th.env.length:Int)+1))
  (h:Am 98 G1 [.gp m 0,.agg true (tv th.t),Cj (ia::th.env)] out G') (ho:Ql out) :
  Am 102 G [.gp m 0,vlV x,.int .i64 k,vlV y] out G':=by
 refine Bh mixed Tryz.func102 tr102 ?_;obtain⟨t,te,b,w,v⟩:=th;simp only at hb hl h;subst hb;obtain⟨k1,k2,k3,k4⟩:=Gq Br;obtain⟨j1,j2,j3,j4⟩:=Gq hia;have k2':(1:Int)<y.kids.length:=by omega
 have j2':(1:Int)<x.kids.length:=by omega
 have Ag:id<G1.length:=Dh Jf
 repeat' first
 |simp only[go_sem,seval,vlV,xk,yk,k1,k2',k3,k4,j1,j2',j3,j4,Jf,Ag,q_g]
 |refine Ai ht ?_
 |refine Af (Zm te ia hl) ?_
 cases out with
 |ret r=>
  obtain⟨v,rfl⟩:=ho;refine Ai h ?_;simp only[go_sem,seval]
 |pan u=>exact Db h trivial ⟨rfl,rfl⟩
def Alt{G G1:GV}{m:Nat}{x y:Vl}{k:Int}{u:SV}(xk:x.k=18)(yk:y.k=17)(ht:Am 101 G [.gp m 0] (.pan u) G1) :
  Am 102 G [.gp m 0,vlV x,.int .i64 k,vlV y] (.pan u) G1:=by
 refine Bh mixed Tryz.func102 tr102 ?_;simp only[go_sem,seval,vlV,xk,yk];exact Db ht trivial ⟨rfl,rfl⟩
def Avb{G G1 G':GV}{m id:Nat}{x y:Vl}{k:Int}{out:HOut}(xk:x.k=18)(yk:y.k=17)(ht:Am 101 G [.gp m 0] (.ret (.tup [])) G1)
  (Br:y.kids[2]?=some id) (h:Am 79 G1 [.gp m 0,.gp id 0] out G') (ho:Ql out) :
  Am 102 G [.gp m 0,vlV x,.int .i64 k,vlV y] out G':=by
 refine Bh mixed Tryz.func102 tr102 ?_;obtain⟨k1,k2,k3,k4⟩:=Gq Br;have k2':(2:Int)<y.kids.length:=by omega
 simp only[go_sem,seval,vlV,xk,yk];refine Ai ht ?_;simp only[go_sem,seval,vlV,xk,yk,k1,k2',k3,k4,q_g];cases out with
 |ret r=>
  obtain⟨v,rfl⟩:=ho;refine Ai h ?_;simp only[go_sem,seval]
 |pan u=>exact Db h trivial ⟨rfl,rfl⟩
def Alv{G G1:GV}{m:Nat}{x y:Vl}{k:Int}{u:SV}(xk:x.k=19)(yk:y.k=17)(ht:Am 101 G [.gp m 0] (.pan u) G1) :
  Am 102 G [.gp m 0,vlV x,.int .i64 k,vlV y] (.pan u) G1:=by
 refine Bh mixed Tryz.func102 tr102 ?_;simp only[go_sem,seval,vlV,xk,yk];exact Db ht trivial ⟨rfl,rfl⟩
def Ave{G G1 G':GV}{m id:Nat}{x y:Vl}{k:Int}{out:HOut}(xk:x.k=19)(yk:y.k=17)(ht:Am 101 G [.gp m 0] (.ret (.tup [])) G1)
  (Br:y.kids[3]?=some id) (h:Am 79 G1 [.gp m 0,.gp id 0] out G') (ho:Ql out) :
  Am 102 G [.gp m 0,vlV x,.int .i64 k,vlV y] out G':=by
 refine Bh mixed Tryz.func102 tr102 ?_;obtain⟨k1,k2,k3,k4⟩:=Gq Br;have k2':(3:Int)<y.kids.length:=by omega
 simp only[go_sem,seval,vlV,xk,yk];refine Ai ht ?_;simp only[go_sem,seval,vlV,xk,yk,k1,k2',k3,k4,q_g];cases out with
 |ret r=>
  obtain⟨v,rfl⟩:=ho;refine Ai h ?_;simp only[go_sem,seval]
 |pan u=>exact Db h trivial ⟨rfl,rfl⟩
def Alu{G G1:GV}{m:Nat}{x y:Vl}{k:Int}{u:SV}(xk:x.k=22)(yk:y.k=21)(ht:Am 101 G [.gp m 0] (.pan u) G1) :
  Am 102 G [.gp m 0,vlV x,.int .i64 k,vlV y] (.pan u) G1:=by
 refine Bh mixed Tryz.func102 tr102 ?_;simp only[go_sem,seval,vlV,xk,yk];exact Db ht trivial ⟨rfl,rfl⟩
def Avc{G G1 G':GV}{m id:Nat}{x y:Vl}{k:Int}{out:HOut}(xk:x.k=22)(yk:y.k=21)(ht:Am 101 G [.gp m 0] (.ret (.tup [])) G1)
  (Br:x.kids[3]?=some id) (h:Am 79 G1 [.gp m 0,.gp id 0] out G') (ho:Ql out) :
  Am 102 G [.gp m 0,vlV x,.int .i64 k,vlV y] out G':=by
 refine Bh mixed Tryz.func102 tr102 ?_;obtain⟨k1,k2,k3,k4⟩:=Gq Br;have k2':(3:Int)<x.kids.length:=by omega
 simp only[go_sem,seval,vlV,xk,yk];refine Ai ht ?_;simp only[go_sem,seval,vlV,xk,yk,k1,k2',k3,k4,q_g];cases out with
 |ret r=>
  obtain⟨v,rfl⟩:=ho;refine Ai h ?_;simp only[go_sem,seval]
 |pan u=>exact Db h trivial ⟨rfl,rfl⟩
def Wy{v:Vl}:cut true 6 true 6 0 (vlC v)=.agg true (vlC v):=q_z
def Vc{v:Vl}:vlC v=[.int .i64 v.k,.int .i64 v.i,.int .i64 v.j,.int .i64 v.n,.int .i64 v.level,Ms v.kids]:=q_z
def Au6(x y:Vl):Prop:=¬(x.k=15/\y.k=14)/\¬(x.k=18/\y.k=17)/\¬(x.k=19/\y.k=17)/\¬(x.k=22/\y.k=21)
def Avd{G:GV}{m k:Nat}{x y:Vl}(hn:Au6 x y)(hx:stk x.k=some k)(hk:k<x.kids.length)(hb:x.kids.length*8<=140737488355328) :
  Am 102 G [.gp m 0,vlV x,.int .i64 k,vlV y] (.ret (vlV { x with kids:=x.kids.set k G.length })) (G++[Eo (some y) none]):=by
 obtain⟨n1,n2,n3,n4⟩:=hn;refine Bh mixed Tryz.func102 tr102 ?_;have Bn:x.kids≠[]:=by intro e;rw[e] at hk;simp at hk
 have Sp:=Mt Bn;have hkI:(k:Int)<(x.kids.length:Int):=by omega
 have hz:x.kids.length≠0:=by omega
 have Dc:x.kids.length<=140737488355328:=by omega
 have e0:(0:Int)<=(k:Int):=by omega
 have Xx:Ms (x.kids.set k G.length)=.dsl 1 ((x.kids.map fun i=>[SV.gp i 0]).set k [.gp G.length 0]):=by
  rw[Mt (by intro e;have:=congrArg List.length e;simp at this;exact Bn this),List.map_set]
 have Px:List.take x.kids.length ((x.kids.map fun i=>[SV.gp i 0]).set k [.gp G.length 0])=(x.kids.map fun i=>[SV.gp i 0]).set k [.gp G.length 0]:=q_js (by simp);have sets:=Mr hx;have hd:=Tw G y;simp only[vlV,Vc] at hd;rcases sets.1 with h|h|h|h
 ·have hy:(y.k==14)=false:=by simpa using fun e=>n1 ⟨h,e⟩
  simp only[go_sem,seval,vlV,h,hy,Wy,Vc,Sp,q_g,hz,hb,Dc];refine Ai hd ?_;simp only[go_sem,seval,vlV,h,hy,Wy,Vc,Sp,q_g,hk,hkI,e0,Xx,Px]
 ·have hy:(y.k==17)=false:=by simpa using fun e=>n2 ⟨h,e⟩
  simp only[go_sem,seval,vlV,h,hy,Wy,Vc,Sp,q_g,hz,hb,Dc];refine Ai hd ?_;simp only[go_sem,seval,vlV,h,hy,Wy,Vc,Sp,q_g,hk,hkI,e0,Xx,Px]
 ·have hy:(y.k==17)=false:=by simpa using fun e=>n3 ⟨h,e⟩
  simp only[go_sem,seval,vlV,h,hy,Wy,Vc,Sp,q_g,hz,hb,Dc];refine Ai hd ?_;simp only[go_sem,seval,vlV,h,hy,Wy,Vc,Sp,q_g,hk,hkI,e0,Xx,Px]
 ·have hy:(y.k==21)=false:=by simpa using fun e=>n4 ⟨h,e⟩
  simp only[go_sem,seval,vlV,h,hy,Wy,Vc,Sp,q_g,hz,hb,Dc];refine Ai hd ?_;simp only[go_sem,seval,vlV,h,hy,Wy,Vc,Sp,q_g,hk,hkI,e0,Xx,Px]
def Asc{G G1:GV}{m:Nat}{x:Vl}{u:SV}(xk:x.k=23)(ht:Am 101 G [.gp m 0] (.pan u) G1):Am 82 G [.gp m 0,vlV x] (.pan u) G1:=by
 refine Bh mixed Tryz.func82 tr82 ?_;simp only[go_sem,seval,vlV,xk];exact Db ht trivial ⟨rfl,rfl⟩
def Bei{G G1 G2 G':GV}{m id:Nat}{x:Vl}{s:Sy}{out:HOut}(xk:x.k=23)(Bn:x.kids≠[])(hb:x.kids.length<=100)(ht:Am 101 G [.gp m 0] (.ret (.tup [])) G1)
  (hs:Am 99 G1 [.gp m 0,.int .i64 x.n,.int .i64 x.i,.int .i64 x.j] (.ret (.gp id 0)) G2) (hr:G2[id]?=some s.row)
  (h:Am 98 G2 [.gp m 0,.agg true (tv s.bd),Cj x.kids.reverse] out G') (ho:Ql out):Am 82 G [.gp m 0,vlV x] out G':=by
 refine Bh mixed Tryz.func82 tr82 ?_;have Sp:=Mt Bn;simp only[go_sem,seval,vlV,xk];refine Ai ht ?_;simp only[go_sem,seval,vlV,xk,Sp,q_g];refine fun _=>?_
 refine Ln (fun i=>⟨(.gp m 0::.dref 6 (vlC x) 0::.J::.J::.nilp::Cj (x.kids.take i).reverse::jk8 (jk4 (.J::.dsl 1 (x.kids.map fun i=>[.gp i 0])::.int .i64 x.kids.length::.int .i64 i::Bo (Do ([]))))),[gOb G1]⟩) x.kids.length (fun i hi=>?_) ?_
 ·by_cases Ag:i<x.kids.length
  ·have e0:(0:Int)<=(i:Int):=by omega
   have hg:(x.kids.map fun i=>[SV.gp i 0])[i]?.getD []=[.gp x.kids[i] 0]:=by rw[q_ji,q_f Ag];rfl
   have hnx:(x.kids.take (i+1)).reverse=x.kids[i]::(x.kids.take i).reverse:=by rw[List.take_succ_eq_append_getElem Ag];simp
   simp only[go_sem,seval,q_jn (show (i:Int)<x.kids.length by omega),e0,q_g,Ag,hg];refine⟨by omega,?_⟩;refine Af (Zm _ x.kids[i] (by simp;unfold fit;omega)) ?_;simp only[go_sem,seval,w64 (show fit ((i:Int)+1) by unfold fit;omega)];refine⟨Ag,?_⟩;rw[hnx];exact Bk (by simp[Ba])
  ·have:i=x.kids.length:=by omega
   subst this;simp only[go_sem,seval,q_je (show ¬((x.kids.length:Nat):Int)<x.kids.length by omega),q_km,vlV,xk];refine Ai hs ?_;simp only[go_sem,seval,hr,vlV,xk];cases out with
   |ret r=>
    obtain⟨v,rfl⟩:=ho;refine Ai h ?_;simp only[go_sem,seval]
   |pan u=>exact Db h trivial ⟨rfl,rfl⟩
 ·simp only[List.take_zero,List.reverse_nil,Pi];exact Bk (by simp[Ba])
def Beh{G G1 G':GV}{m id p:Nat}{x y y':Vl}{th:Th}{out:HOut}(hp:stk x.k=some p)(Br:x.kids[p]?=some id)(Jf:G[id]?=some (thR th))(hw:th.w=some y)(hy:Am 82 G [.gp m 0,vlV y] (.ret (vlV y')) G1)
  (h:Am 102 G1 [.gp m 0,vlV x,.int .i64 p,vlV y'] out G') (ho:Ql out):Am 82 G [.gp m 0,vlV x] out G':=by
 refine Bh mixed Tryz.func82 tr82 ?_;obtain⟨k1,k2,k3,k4⟩:=Gq Br;have hk:=Mr hp;have Cs:x.k≠23:=by omega
 have k2':(p:Int)<x.kids.length:=by omega
 have e0:(0:Int)<=(p:Int):=by omega
 have Dn:Con 100 [.int .i64 x.k] (.int .i64 p):=by
  unfold stk at hp;split at hp
  ·rename_i c;cases hp;exact Lq c
  ·split at hp
   ·rename_i c;cases hp;rw[c];exact Xm
   ·cases hp
 obtain⟨t,te,b,w,v⟩:=th;simp only at hw;subst hw
 repeat' first
 |simp only[go_sem,seval,vlV,Ao Cs,k1,k2',k3,k4,e0,Jf,Qe,q_g]
 |refine Af Dn ?_
 |refine Ai hy ?_
 cases out with
 |ret r=>
  obtain⟨v,rfl⟩:=ho;refine Ai h ?_;simp only[go_sem,seval]
 |pan u=>exact Db h trivial ⟨rfl,rfl⟩
def Asb{G G1:GV}{m id p:Nat}{x y:Vl}{th:Th}{u:SV}(hp:stk x.k=some p)(Br:x.kids[p]?=some id)(Jf:G[id]?=some (thR th))(hw:th.w=some y)(hy:Am 82 G [.gp m 0,vlV y] (.pan u) G1) :
  Am 82 G [.gp m 0,vlV x] (.pan u) G1:=by
 refine Bh mixed Tryz.func82 tr82 ?_;obtain⟨k1,k2,k3,k4⟩:=Gq Br;have hk:=Mr hp;have Cs:x.k≠23:=by omega
 have k2':(p:Int)<x.kids.length:=by omega
 have e0:(0:Int)<=(p:Int):=by omega
 have Dn:Con 100 [.int .i64 x.k] (.int .i64 p):=by
  unfold stk at hp;split at hp
  ·rename_i c;cases hp;exact Lq c
  ·split at hp
   ·rename_i c;cases hp;rw[c];exact Xm
   ·cases hp
 obtain⟨t,te,b,w,v⟩:=th;simp only at hw;subst hw;simp only[go_sem,seval,vlV,Ao Cs];refine Af Dn ?_;simp only[go_sem,seval,vlV,k1,k2',k3,k4,e0,Jf,Qe,q_g];exact Db hy trivial ⟨rfl,rfl⟩
inductive HdR(m:Nat):GV->Vl->HOut->GV->Prop
 |stop {G G':GV} {v:Vl} (hs:Am 81 G [.gp m 0,vlV v] (.ret (.int .i64 0)) G'):HdR m G v (.ret (vlV v)) G'
 |pan {G G1 G':GV} {v:Vl} {n:Int} {u:SV} (hs:Am 81 G [.gp m 0,vlV v] (.ret (.int .i64 n)) G1) (hn:n≠0) (ho:Am 82 G1 [.gp m 0,vlV v] (.pan u) G'):HdR m G v (.pan u) G'
 |step {G G1 G2 G':GV} {v v':Vl} {n:Int} {out:HOut} (hs:Am 81 G [.gp m 0,vlV v] (.ret (.int .i64 n)) G1) (hn:n≠0) (ho:Am 82 G1 [.gp m 0,vlV v] (.ret (vlV v')) G2) (h:HdR m G2 v' out G'):HdR m G v out G'
def Apf{m id:Nat}{G G':GV}{v:Vl}{out:HOut}(h:HdR m G v out G'){X:SV->GV->Prop}{Q:AE->St->Prop}
  (hq:∀v',out=.ret (vlV v')->Q (.exit 0) ⟨(.gp m 0::.gp id 0::.J::.J::.nilp::vlV v'::jk8 (.gp m 0::vlV v'::.int .i64 0::.bool false::jk8 (jk2 (.J::[])))),[gOb G']⟩) (hx:∀u,out=.pan u->X u G') :
  ∃n,vcI (Bp Tryz.prog X) a53_8 Q n ⟨(.gp m 0::.gp id 0::.J::.J::.nilp::vlV v::Do (jk4 (jk2 (.J::[])))),[gOb G]⟩:=by
 induction h with
 |@stop G G' v hs=>
  refine⟨1,Bd ?_⟩;have:=hq v rfl;simp only[go_sem,seval];refine Ai hs ?_;simp only[go_sem,seval];exact this
 |@pan G G1 G' v n u hs hn ho=>
  refine⟨1,Bd ?_⟩;simp only[go_sem,seval];refine Ai hs ?_;have hb:(n != (0:Int))=true:=by simpa using hn
  simp only[go_sem,seval,hb];exact Db ho trivial (hx _ rfl)
 |@step G G1 G2 G' v v' n out hs hn ho h ih=>
  obtain⟨k,ih⟩:=ih hq hx;refine⟨k+1,Bd ?_⟩;simp only[go_sem,seval];refine Ai hs ?_;have hb:(n != (0:Int))=true:=by simpa using hn
  simp only[go_sem,seval,hb];refine Ai ho ?_;simp only[go_sem,seval];exact Dl (Bk (by simp[Ba])) ih
def Baf{G G1 G2:GV}{m id:Nat}{th th1:Th}{v v':Vl}(h:G[id]?=some (thR th))(hv:th.v=none)(he:Am 79 G [.gp m 0,.gp id 0] (.ret (vlV v)) G1)(hd:HdR m G1 v (.ret (vlV v')) G2)(h1:G2[id]?=some (thR th1)) :
  Am 53 G [.gp m 0,.gp id 0] (.ret (vlV v')) (G2.set id (thR { th1 with v:=some v' })):=by
 obtain⟨out,ho⟩:∃out,out=HOut.ret (vlV v'):=⟨_,rfl⟩
 rw[<-ho];refine Bh mixed Tryz.func53 tr53 ?_;obtain⟨t,te,b,w,x⟩:=th;simp only at hv;subst hv;have Ag:=Dh h1;simp only[go_sem,seval,h,o0];refine Ai he ?_;simp only[go_sem,seval];refine Exists.elim (Apf (id:=id) hd (X:=fun x G1=>out=.pan x/\G1=G2.set id (thR { th1 with v:=some v' }))
  (Q:=bk 0 (sq (Bp Tryz.prog fun x G1=>out=.pan x/\G1=G2.set id (thR { th1 with v:=some v' })) a53_11 (sq (Bp Tryz.prog fun x G1=>out=.pan x/\G1=G2.set id (thR { th1 with v:=some v' })) a53_17 (rtG [.t 4] out (G2.set id (thR { th1 with v:=some v' })))))) (fun w hw=>?_) (fun u hu=>by cases hu)) (fun n hn=>?_)
 ·simp only[HOut.ret.injEq] at hw;subst ho;rw[<-hw];simp only[go_sem,seval,h1,Auf,Ex h1,Ou,Qe,q_jq Ag]
 ·simp only[go_sem,seval] at hn;exact Cv n (Dl (Bk (by simp[Ba])) hn)
def Apn{G G1 G2:GV}{m id:Nat}{th:Th}{v:Vl}{u:SV}(h:G[id]?=some (thR th))(hv:th.v=none)(he:Am 79 G [.gp m 0,.gp id 0] (.ret (vlV v)) G1)(hd:HdR m G1 v (.pan u) G2) :
  Am 53 G [.gp m 0,.gp id 0] (.pan u) G2:=by
 obtain⟨out,ho⟩:∃out,out=HOut.pan u:=⟨_,rfl⟩
 rw[<-ho];refine Bh mixed Tryz.func53 tr53 ?_;obtain⟨t,te,b,w,x⟩:=th;simp only at hv;subst hv;simp only[go_sem,seval,h,o0];refine Ai he ?_;simp only[go_sem,seval];obtain⟨n,hn⟩:=Apf (id:=id) hd (X:=fun x G1=>out=.pan x/\G1=G2)
  (Q:=bk 0 (sq (Bp Tryz.prog fun x G1=>out=.pan x/\G1=G2) a53_11 (sq (Bp Tryz.prog fun x G1=>out=.pan x/\G1=G2) a53_17 (rtG [.t 4] out G2)))) (fun w hw=>by cases hw) (fun u' hu=>⟨by rw[ho];exact hu,rfl⟩)
 simp only[go_sem,seval] at hn;exact Cv n (Dl (Bk (by simp[Ba])) hn)
structure Lib(S:SyT):Prop where
 at_:∀n i j,fit n->fit i->fit j->(∀s,S n i j=some s->Con 117 [.int .i64 n,.int .i64 i,.int .i64 j] (.tup [.agg true s.row,.bool true]))/\(S n i j=none->Con 117 [.int .i64 n,.int .i64 i,.int .i64 j] (.tup [.agg true noSy,.bool false]))
 bd:∀n i j s,S n i j=some s->s.df=true->Sf (Bv 23 n).toNat s.bd/\(Bv 23 n).toNat+dpt s.bd<=1000
section
variable{S:SyT}{m j:Nat}{G:GV}{Γ:Gh}{M:Mc}
def RInv.setMap(h:RInv S m j G Γ M){l:List (K3×SV)}(hE:∀p∈l,EntOK S G Γ p):RInv S m j (G.set j (It l)) Γ M:=by
 obtain⟨l0,Eu,_⟩:=h.map;refine⟨by rw[q_ki];exact h.len,by rw[q_jc (Ne.symm h.mj)];exact h.mc,h.gm,h.gj,h.mj,⟨l,Ex Eu,fun p hp=>EntOK.mono (hE p hp) (.refl Γ) (fun s id h1 h2=>?_)⟩,fun id g hg=>?_,h.st,h.mo,h.se,h.gu⟩
 ·rw[q_jc (fun e=>?_)]
  ·exact h2
  ·subst e;rw[Eu,q_b] at h2;exact Bg8 h2.symm
 ·obtain⟨th,h1,h2⟩:=h.rows id g hg;refine⟨th,h1.mono (.refl Γ) ?_,h2⟩;rw[q_jc (fun e=>?_)];subst e;rw[h.gj] at hg;cases hg
def RInv.pushN(h:RInv S m j G Γ M)(r:List SV):RInv S m j (G++[r]) (Γ++[none]) M:=by
 have lt:∀{id:Nat} {r':List SV},G[id]?=some r'->(G++[r])[id]?=some r':=fun h=>by rw[q_jf (Dh h)];exact h
 obtain⟨l,hl,hE⟩:=h.map;refine⟨by simp[h.len],lt h.mc,(Gx.app _ _).get h.gm,(Gx.app _ _).get h.gj,h.mj,⟨l,lt hl,fun p hp=>EntOK.mono (hE p hp) (.app _ _) (fun s id' h1 h2=>lt h2)⟩,fun id' g' Fo=>?_,h.st,h.mo,h.se,h.gu⟩;rcases q_jo id' Γ.length with Ag|Fy
 ·rw[q_jf Ag] at Fo;obtain⟨th,h1,h2⟩:=h.rows id' g' Fo;exact⟨th,h1.mono (.app _ _) (by rw[q_jf (by rw[h.len];exact Ag)]),h2.mono (.app _ _)⟩
 ·have:id'=Γ.length:=by
   have:=Dh Fo;simp at this;omega
  subst this;simp at Fo
def Aua(L:Lib S)(h:RInv S m j G Γ M){n i j':Int}(hn:fit n)(hi:fit i)(hj:fit j') :
  ∃r G' Γ',Am 99 G [.gp m 0,.int .i64 n,.int .i64 i,.int .i64 j'] (.ret r) G'/\Gx Γ Γ'/\RInv S m j G' Γ' M/\(S n i j'=none->r=.nilp)/\(∀s,S n i j'=some s->∃id,r=.gp id 0/\G'[id]?=some s.row):=by
 obtain⟨l,hl,hE⟩:=h.map;have hmc:=h.mc;have hk:ok3 (n,i,j'):=⟨hn,hi,hj⟩
 obtain⟨hA1,Zr⟩:=L.at_ n i j' hn hi hj;cases hf:l.find? (fun p=>p.1==(n,i,j')) with
 |some p=>
  have hp:=List.mem_of_find?_eq_some hf;have Sl:p.1=(n,i,j'):=by simpa using List.find?_some hf
  rcases hE p hp with⟨h1,h2⟩|⟨s,id,h1,h2,h3,h4⟩
  ·rw[Sl] at h1;refine⟨_,_,Γ,At9 hmc hl hf hk (.inl h2),.refl Γ,h,fun _=>h2,fun s hs=>?_⟩;simp only at h1;rw[h1] at hs;cases hs
  ·rw[Sl] at h1;simp only at h1;refine⟨_,_,Γ,At9 hmc hl hf hk (.inr ⟨id,h2⟩),.refl Γ,h,fun hs=>?_,fun s' hs=>?_⟩
   ·rw[h1] at hs;cases hs
   ·rw[h1,q_b] at hs;subst hs;exact⟨id,h2,h4⟩
 |none=>
  cases hS:S n i j' with
  |none=>
   refine⟨_,_,Γ,Bit hmc hl hf hk h.mj (Zr hS),.refl Γ,h.setMap (fun p hp=>?_),fun _=>rfl,fun s hs=>by cases hs⟩;rcases q_ke.1 hp with hp|hp
   ·exact hE p hp
   ·rw[q_kj] at hp;subst hp;exact .inl ⟨hS,rfl⟩
  |some s=>
   refine⟨_,_,Γ++[none],Bis hmc hl hf hk h.mj At8 (hA1 s hS),.app _ _,(h.pushN s.row).setMap (fun p hp=>?_),fun hs=>(by cases hs),fun s' hs=>?_⟩
   ·rcases q_ke.1 hp with hp|hp
    ·exact EntOK.mono (hE p hp) (.app _ _) (fun s id _ h2=>by rw[q_jf (Dh h2)];exact h2)
    ·rw[q_kj] at hp;subst hp;exact .inr ⟨s,G.length,hS,rfl,by rw[h.len];simp,by simp⟩
   ·cases hs;refine⟨_,rfl,?_⟩;rw[q_jc (by have:=Dh hl;omega)];simp
inductive Wts(S:SyT)(Γ:Gh):Vl->Prop
 |use {v:Vl} {s:Sy} (h:v.k=23) (hs:S v.n v.i v.j=some s) (hd:s.df=true):Wts S Γ v
 |step {v y:Vl} {p id:Nat} (hp:stk v.k=some p) (Br:v.kids[p]?=some id) (hg:Γ[id]?=some (some (.dn y (TV Γ y)))) (hv:VOK Γ y) (hy:Wts S Γ y):Wts S Γ v
def Wts.mono{Γ Γ':Gh}(x:Gx Γ Γ'){v:Vl}(h:Wts S Γ v):Wts S Γ' v:=by
 induction h with
 |use h hs hd=>exact .use h hs hd
 |step hp Br hg hv _ ih=>exact .step hp Br (by rw[El x hv];exact x.get hg) (hv.mono x) ih
def VOK.num{Γ:Gh}{v:Vl}(h:VOK Γ v):fit v.i/\fit v.j/\fit v.n:=by
 cases h with
 |fv l _=>simp only;unfold fit;omega
 |nd _ _ hf _ _=>exact hf
def VOK.len{Γ:Gh}{v:Vl}(h:VOK Γ v)(h2:v.k≠2):(v.kids.length:Int)=Bv v.k v.n:=by
 cases h with
 |fv l _=>exact absurd rfl h2
 |nd _ _ _ hl _=>exact hl
def Akx{n:Int}(h:0<=Bv 23 n):1<=n/\n<=21/\4<=Bv 23 n:=by
 have hr:1<=n/\n<=21:=by
  rcases Classical.em (1<=n/\n<=21) with h1|h1
  ·exact h1
  ·unfold Bv Wv tab at h;rw[if_pos rfl,if_neg (by simpa using h1)] at h;omega
 refine⟨hr.1,hr.2,?_⟩;have:n=1\/n=2\/n=3\/n=4\/n=5\/n=6\/n=7\/n=8\/n=9\/n=10\/n=11\/n=12\/n=13\/n=14\/n=15\/n=16\/n=17\/n=18\/n=19\/n=20\/n=21:=by omega
 rcases this with rfl|rfl|rfl|rfl|rfl|rfl|rfl|rfl|rfl|rfl|rfl|rfl|rfl|rfl|rfl|rfl|rfl|rfl|rfl|rfl|rfl<;>decide
def RInv.dn(h:RInv S m j G Γ M){id:Nat}{y:Vl}{T:Tm}(hg:Γ[id]?=some (some (.dn y T))):∃th,G[id]?=some (thR th)/\th.bare=true/\th.w=some y/\WOK Γ y/\T=TV Γ y:=by
 obtain⟨th,h1,_⟩:=h.rows id _ hg;exact⟨th,h1⟩
def Af5(L:Lib S){v:Vl}(hv:Vst Γ v):∀{G:GV} {M:Mc},RInv S m j G Γ M->VOK Γ v->∃n G' Γ',(∀out,out=.ret (.int .i64 n)->Xd G m v out G')/\Gx Γ Γ'/\RInv S m j G' Γ' M/\(n=0->HN plW (TV Γ v)->HN (plD S.B) (TV Γ v))/\(n≠0->Wts S Γ v)/\0<=n:=by
 induction hv with
 |@base v h=>
  intro G M hI hv
  by_cases Cs:v.k=23
  ·obtain⟨f1,f2,f3⟩:=hv.num;obtain⟨r,G',Γ',hs,x,hi,hn,hd⟩:=Aua L hI f3 f1 f2;cases hS:S v.n v.i v.j with
   |none=>
    rw[hn hS] at hs;refine⟨0,G',Γ',fun out ho=>Bip Cs hs ho,x,hi,fun _ _=>?_,fun h=>absurd rfl h,Int.le_refl 0⟩;refine .mk ?_ (fun p hp=>by rw[TV_k (by omega),h] at hp;cases hp);unfold plD;rw[if_pos (by rw[TV_k (by omega)];exact Cs)];rw[Hp (by omega)];show Option.map _ (S.B v.n v.i v.j)=none;unfold SyT.B;rw[hS];rfl
   |some s=>
    obtain⟨id,rfl,Cc⟩:=hd s hS;refine⟨_,G',Γ',fun out ho=>Bir Cs hs Cc ho,x,hi,fun h0 _=>?_,fun h0=>?_,?_⟩
    ·have Et:s.df=false:=by
      cases Et:s.df with
      |false=>rfl
      |true=>
       rw[Et,if_pos rfl] at h0;have:=hv.len (by omega);rw[Cs] at this;have:=Akx (n:=v.n) (by omega);omega
     refine .mk ?_ (fun p hp=>by rw[TV_k (by omega),h] at hp;cases hp);unfold plD;rw[if_pos (by rw[TV_k (by omega)];exact Cs)];rw[Hp (by omega)];show Option.map _ (S.B v.n v.i v.j)=none;unfold SyT.B;rw[hS];simp[Et]
    ·cases Et:s.df with
     |false=>rw[Et] at h0;exact absurd rfl h0
     |true=>exact .use Cs hS Et
    ·have:=hv.len (by omega);rw[Cs] at this;have:=Akx (n:=v.n) (by omega);split<;>omega
  ·have h4:v.k≠15/\v.k≠18/\v.k≠19/\v.k≠22:=by
    unfold stk at h;have h1:¬(v.k=15\/v.k=18\/v.k=19):=fun c=>by rw[if_pos c] at h;cases h
    rw[if_neg h1] at h;have h3:¬v.k=22:=fun c=>by rw[if_pos c] at h;cases h
    omega
   refine⟨0,G,Γ,fun out ho=>Bio Cs h4 ho,.refl Γ,hI,fun _ hn=>?_,fun h=>absurd rfl h,Int.le_refl 0⟩;have hk:(TV Γ v).k≠23:=by
    by_cases h2:v.k=2
    ·unfold TV;rw[if_pos h2];unfold fT;simp[Tm.k]
    ·rw[TV_k h2];exact Cs
   cases hn with
   |mk h1 h2=>
    refine .mk (by unfold plD;rw[if_neg hk];exact h1) (fun p hp=>?_);exfalso
    by_cases h2:v.k=2
    ·unfold TV at hp;rw[if_pos h2] at hp;cases hp
    ·rw[TV_k h2,h] at hp;cases hp
 |@step v y p id hp Br hg hvy hy ih=>
  intro G M hI hv;obtain⟨th,t1,t2,t3,t4,t5⟩:=hI.dn hg;obtain⟨n,G',Γ',hs,x,hi,h0,h1,Od⟩:=ih hI hvy;have hk:=Mr hp;have h2:v.k≠2:=by omega
  refine⟨n,G',Γ',fun out ho=>Biq hp Br t1 t3 (hs out ho),x,hi,fun e hn=>?_,fun e=>.step hp Br hg hvy (h1 e),Od⟩;have Oi:Ap (TV Γ v) p=TV Γ y:=by rw[Agj h2 Br,Kr hg];rfl
  cases hn with
  |mk k1 k2=>
   refine .mk (by unfold plD;rw[if_neg (by rw[TV_k h2];omega)];exact k1) (fun q hq=>?_);rw[TV_k h2,hp] at hq;cases hq;have:=k2 p (by rw[TV_k h2];exact hp);rw[Oi] at this |-;exact h0 e this
end
end Go.Proofs.YtgdkddjdhijfnaaGreatDoor.Abs
