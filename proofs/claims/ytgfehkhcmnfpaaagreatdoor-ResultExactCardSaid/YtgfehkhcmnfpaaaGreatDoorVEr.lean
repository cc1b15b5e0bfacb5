import Derived.Test.YtgfehkhcmnfpaaaGreatDoorVEg
import Derived.Test.YtgfehkhcmnfpaaaGreatDoorVAfC
import Derived.Test.YtgfehkhcmnfpaaaGreatDoorVWg
import Derived.Deep.DeepCutAuto
set_option linter.all false
set_option maxRecDepth 20000
set_option maxHeartbeats 4000000
namespace Go.Proofs.YtgfehkhcmnfpaaaGreatDoor.Abs
open Go Go.RowKit Go.Proofs.YtgfehkhcmnfpaaaGreatDoor
def Ak1(k n:Int):Fc k n<=12:=by
 have tab_le:∀(l:List Int) (m:Int),(∀a∈l,a<=12)->tab l m<=12:=fun l m h=>by
  unfold tab;split
  ·rename_i h1;have hx:(m-1).toNat<l.length\/¬(m-1).toNat<l.length:=Decidable.em _;rcases hx with hx|hx
   ·rw[q_j,q_f hx];exact h _ (q_kd hx)
   ·rw[q_j,q_jd (by omega)];decide
  ·decide
 unfold Fc Pd;split
 ·exact tab_le _ _ (by decide)
 ·exact tab_le _ _ (by decide)
def Azv{k i j n:Int}(h:Id k i j n=true)(hk:k≠2):0<=i/\i<=1000/\0<=j/\j<=1000:=by
 unfold Id lev at h;rw[if_neg hk] at h
 repeat' split at h
 all_goals
  simp only[q_jl,q_jt,beq_iff_eq] at h;omega
def A0n{F:Nat->Int}:∀{n y:Nat},y<n->F y<=pm F n:=by
 intro n
 induction n with
 |zero=>intro y h;exact absurd h (q_kq _)
 |succ n ih=>
  intro y h;rw[pm]
  by_cases hy:y=n
  ·subst hy;omega
  ·have:=ih (show y<n by omega);omega
def Aij{k i j n:Int}{l:List Tm}(hk:k≠2){x d:Nat}(hx:x<l.length)(h:Da (.mk k i j n l)<=d):Da (l[x]?.getD default)<=((d+(Cn k x).toNat:Nat):Int):=by
 rw[v7 hk] at h;have:=A0n (F:=fun y=>Da (l[y]?.getD default)-Cn k ((y:Nat):Int)) hx;have hb:=Pk k x;omega
def Ay5{x:Nat}(h:x<12):(markG.map wdG)[x]?.getD []=[.str (bs (markG.getD x []))]:=by
 have hl:markG.length=12:=rfl;rw[q_ji,q_f (by omega),q_j,q_f (by omega)];rfl
def Alw{x:Nat}(h:x<11):(plainG.map wdG)[x]?.getD []=[.str (bs (plainG.getD x []))]:=by
 have hl:plainG.length=11:=rfl;rw[q_ji,q_f (by omega),q_j,q_f (by omega)];rfl
def Ut:Cn 1 1=0/\Cn 3 1=1/\Cn 4 1=1/\Cn 5 1=1/\Cn 6 1=1/\Cn 7 1=1/\Cn 8 1=1/\Cn 9 1=1/\Cn 10 1=0/\Cn 11 1=0/\Cn 12 1=0/\Cn 13 1=1/\Cn 14 1=1/\Cn 15 1=0/\Cn 16 1=1/\Cn 17 1=1/\Cn 18 1=0/\Cn 19 1=0/\Cn 20 1=0/\Cn 21 1=0/\Cn 22 1=0/\Cn 23 1=0:=⟨rfl,rfl,rfl,rfl,rfl,rfl,rfl,rfl,rfl,rfl,rfl,rfl,rfl,rfl,rfl,rfl,rfl,rfl,rfl,rfl,rfl,rfl⟩
def Agi:IntKind.i64.wrap 7=7/\IntKind.i64.wrap 8=8/\IntKind.i64.wrap 9=9/\IntKind.i64.wrap 10=10/\IntKind.i64.wrap 11=11:=⟨by decide,by decide,by decide,by decide,by decide⟩
def Aqu(t:Tm):TOk t->∀(w:Int) (d:Nat),Cz t w=true->Da t<=d->d+2*Du t<=800000000->Fx t<=1000000->Con 66 [.agg true (tv t),.int .i64 d] (.str (bs (txT t d))):=by
 induction t using Tm.ind with
 |h k i j n l ih=>
  intro hok w d hr hf hd hs;obtain⟨f1,f2,f3,f4,hb,hl⟩:=Abv hok;have hn:=Afl (Sc hr).1
  by_cases hk:k=2
  ·subst hk;rw[Aga,Bp];rw[Da,if_pos rfl] at hf;obtain⟨z,hz⟩:∃z:Nat,(d:Int)-1-i=z:=⟨((d:Int)-1-i).toNat,by omega⟩
   have cp:=Qy (n:=z) (by omega);have e1:IntKind.i64.wrap ((d:Int)-1)=(d:Int)-1:=w64 (by unfold fit;omega);have e2:IntKind.i64.wrap ((d:Int)-1-i)=(z:Int):=by rw[w64 (by unfold fit;omega)];exact hz
   have hil:=Mc (z:Int) (by omega) (by omega);have b1:1+(Lib.itoa (z:Int)).length<=9223372036854775807:=by omega
   rw[hz];unfold vB;refine Bt mixed Tryz.func66 tr66 ?_
   repeat' first
   |simp only[go_sem,seval,e1,e2,b1]
   |refine Ae cp ?_
  ·have Rq:=Amc hr;have hn:=Azv (Sc hr).1 hk;have Yr:l.length<=100:=by
    have h1:=(Sc hr).2;have h2:=Ak1 k n;omega
   have Bl:=Af8 (.mk k i j n l) w d hr (by omega);rw[Af9 hk] at Bl |-;simp only[q_jr,q_jk,List.length_nil] at Bl;have H:∀x,x<l.length->Con 66 [.agg true (tv (l[x]?.getD default)),.int .i64 (d+(Cn k x).toNat:Nat)] (.str (bs (txT (l[x]?.getD default) (d+(Cn k x).toNat)))):=fun x hx=>by
    have hm:=Fg (d:=default) hx;obtain⟨w',hw⟩:=Uf hr hm;have h1:=Aab hm;have h2:=Afz hm;have h3:=Pk k x;rw[Yj] at hd;rw[Abj] at hs;exact ih _ hm (hl _ hm) w' _ hw (Aij hk hx hf) (by omega) (by omega)
   have L:=fun {st:St}=>A1d (k:=k) (i:=i) (j:=j) (n:=n) (T:=Pz k i j n d) (by omega) Yr (by omega) H (st:=st)
   clear ih H hl Bl;have Zb:k=23->1<=n/\n<=21:=fun h=>by subst h;exact Am9 hr
   clear hr hf hs hok hb;rw[Bp];generalize Pz k i j n d++txP k d l l.length++[41]=R at *
   have hk':k=1\/k=3\/k=4\/k=5\/k=6\/k=7\/k=8\/k=9\/k=10\/k=11\/k=12\/13<=k:=by omega
   obtain⟨M,hM⟩:∃M,markG.map wdG=M:=⟨_,rfl⟩
   obtain⟨N,hN⟩:∃N,plainG.map wdG=N:=⟨_,rfl⟩
   have cm:=Aqe;have cn:=Aqt;have hMl:M.length=12:=by rw[<-hM];rfl
   have Bd:N.length=11:=by rw[<-hN];rfl
   have hA:k<=12->∃wv:By,M[(k-1).toNat]?.getD []=[.str (bs wv)]/\wdB k n=wv/\wv.length<=20:=fun h=>by
    refine⟨wdB k n,?_,rfl,j6 k n⟩;rw[<-hM,Ay5 (by omega)];unfold wdB;rw[if_neg (by omega),if_pos h]
   have hB:13<=k->∃wv:By,N[(k-13).toNat]?.getD []=[.str (bs wv)]/\(k≠23->wdB k n=wv)/\(k=23->wv=[117,115,101])/\wv.length<=20:=fun h=>by
    by_cases Bs:k=23
    ·refine⟨[117,115,101],?_,fun h=>absurd Bs h,fun _=>rfl,by decide⟩;rw[<-hN,Alw (by omega),Bs];rfl
    ·refine⟨wdB k n,?_,fun _=>rfl,fun h=>absurd h Bs,j6 k n⟩;rw[<-hN,Alw (by omega)];unfold wdB;rw[if_neg Bs,if_neg (by omega)]
   rw[hM] at cm;rw[hN] at cn;clear hM hN;have hid:=Mc (d:Int) (by omega) (by omega);have hii:=Mc i (by omega) (by omega);have Jk:=Mc j (by omega) (by omega);have ci:=Qy (n:=i.toNat) (by omega);have cj:=Qy (n:=j.toNat) (by omega);rw[Int.toNat_of_nonneg hn.1] at ci;rw[Int.toNat_of_nonneg hn.2.2.1] at cj;have cd:=Qy (n:=d) (by omega);have cb:=Aco k 1;refine Bt mixed Tryz.func66 tr66 ?_;rcases hk' with hk'|hk'|hk'|hk'|hk'|hk'|hk'|hk'|hk'|hk'|hk'|hk'
   rotate_right
   ·obtain⟨wv,r1,r2,r4,r3⟩:=hB hk';clear hA hB
    by_cases hu:k=23
    ·obtain⟨u1,u2⟩:=Zb hu;have cN:=Aq6 u1 u2;have hwd:wdB k n=wv++[32]++symsL.getD (n-1).toNat []:=by unfold wdB;rw[if_pos hu,r4 hu];rfl
     have Jn:=j6 k n;rw[hwd] at Jn;simp only[q_jr,q_jk,List.length_nil] at Jn;generalize symsL.getD (n-1).toNat []=nm at *
     clear r2 r4 Zb;subst hu;simp only[Int.reduceSub,Int.reduceToNat] at r1
     repeat' first
     |simp (disch:=omega) only[go_sem,seval,Bd,r1,forall_const,if_pos,Ut,Agi]
     |refine Ae cn ?_
     |refine Ae cN ?_
     |refine Ae cb ?_
     |refine Ae ci ?_
     |refine Ae cj ?_
     |refine Ae cd ?_
     |intro _
     refine L ?_;unfold pwS Pz;rw[hwd];exact Cr (by simp[Cb,Wh,lvN,bdB,vB,Ut])
    ·have r2:=r2 hu;have Ek:k=13\/k=14\/k=15\/k=16\/k=17\/k=18\/k=19\/k=20\/k=21\/k=22:=by omega
     clear r4 Zb Rq hk';rcases Ek with Ek|Ek|Ek|Ek|Ek|Ek|Ek|Ek|Ek|Ek
     all_goals
      subst Ek;simp only[Int.reduceSub,Int.reduceToNat] at r1
      repeat' first
      |simp (disch:=omega) only[go_sem,seval,Bd,r1,forall_const,if_pos,Ut,Agi]
      |refine Ae cn ?_
      |refine Ae cb ?_
      |refine Ae cd ?_
      |intro _
      refine L ?_;unfold pwS Pz;rw[r2];exact Cr (by simp[Cb,Wh,lvN,bdB,vB,Ut])
   all_goals
    have hq:k<=12:=by omega
    obtain⟨wv,r1,r2,r3⟩:=hA hq;clear hA hB;subst hk';simp only[Int.reduceSub,Int.reduceToNat] at r1
    repeat' first
    |simp (disch:=omega) only[go_sem,seval,hMl,r1,forall_const,if_pos,Ut,Agi]
    |refine Ae cm ?_
    |refine Ae cb ?_
    |refine Ae ci ?_
    |refine Ae cj ?_
    |refine Ae cd ?_
    |intro _
    refine L ?_;unfold pwS Pz;rw[r2];exact Cr (by simp[Cb,Wh,lvN,bdB,vB,Ut])
def Ahn{t:Tm}(ht:TOk t){w:Int}{d:Nat}(hr:Cz t w=true)(hf:Da t<=d)(hd:d<=1000)(hh:Du t<=1000)(hs:Fx t<=1000000):Con 36 [.agg true (tv t),.int .i64 d] (.str (bs (txT t d))):=by
 have c1:=Aht t ht;have c2:=q8 t ht;have c3:=Aqu t ht w d hr hf (by omega) hs;rw[Qk hr] at c1;rw[show Gy t=Da t by unfold Gy;rw[if_pos (Qk hr)]] at c2;have hz:=Bz t;have e1:¬((d:Int)<0):=by omega
 have e2:¬((1000000:Int)<(d:Int)):=by omega
 have e3:¬((d:Int)<Da t):=by omega
 generalize txT t d=T at *
 refine Bt mixed Tryz.func36 tr36 ?_
 repeat' first
 |simp only[go_sem,seval,hz,e1,e2,e3]
 |refine Ae c1 ?_
 |refine Ae c2 ?_
 |refine Ae c3 ?_
def MM(m:Mem)(B:Nat)(w:World):Prop:=∃w0:World,w0.heap.size=B/\Fk m w0/\Below B w0 w
section
variable{m:Mem}{B:Nat}{w:World}
def MM.ok(h:MM m B w):Fk m w:=by
 obtain⟨w0,rfl,h1,h2⟩:=h;exact Aa1 h1 h2
def Fv:Uo (MM m B) B:=fun h k=>by
 obtain⟨w0,h0,h1,h2⟩:=h;exact⟨w0,h0,h1,h2.trans k⟩
def Wr{f:Nat}{args:List SV}{r:SV}{v:Value}(hc:Con f args r)(vs:List Value)(hl:vs.length=args.length)(hr:∀(j:Nat) v x,vs[j]?=some v->args[j]?=some x->Rep m v x)(hv:∀m' v',Rep m' v' r->v'=v):Hw (MM m B) f vs v:=fun w hw=>by
 refine Calls.mono (hc m w vs hw.ok hl hr) (fun e w' h=>?_);obtain⟨v',m',h1,h2,_,_,_,h3,h4,h5,h6,h7⟩:=h;refine⟨?_,⟨h3,h4,h5,h6,h7⟩⟩;rw[h1,hv m' v' h2]
def Wl{a:Value}{x:SV}(h:Rep m a x):∀(j:Nat) v y,[a][j]?=some v->[x][j]?=some y->Rep m v y:=fun j v y h1 h2=>by
 match j,h1,h2 with
 |0,h1,h2=>cases h1;cases h2;exact h
 |j+1,h1,h2=>simp at h1
def Al8{v:Value}{s:By}(h:Rep m v (.str (bs s))):v=.string ⟨s.toArray⟩:=by cases h;rfl
def Abu{n:Int}(h:I64 n):Hw (MM m B) 32 [.int .i64 n] (.string ⟨(Lib.itoa n).toArray⟩):=
 Wr (p9 h) _ rfl (Wl (.int _ _)) (fun _ _ h=>Al8 h)
def Af4{n:Nat}(h:n<1000000000):Hw (MM m B) 97 [.int .i64 n] (.string ⟨(vB n).toArray⟩):=
 Wr (Ahj n h) _ rfl (Wl (.int _ _)) (fun _ _ h=>Al8 h)
def A1q{v:Value}{s:By}{n:Int}(h:Rep m v (.tup [.str (bs s),.int .i64 n])):v=.tuple #[.string ⟨s.toArray⟩,.int .i64 n]:=by
 generalize hz:SV.tup [.str (bs s),.int .i64 n]=z at h;cases h with
 |tup vs l hl hr=>
  cases hz
  match vs,hl with
  |[a,b],_=>
   have ha:=hr 0 a _ rfl rfl;have hb:=hr 1 b _ rfl rfl;cases ha;cases hb;rfl
 |_=>cases hz
def Abc{k i j n:Int}{l:List Tm}{v0 v1 v2 v3 v4:Value}(h0:Rep m v0 (.int .i64 k))(h1:Rep m v1 (.int .i64 i))(h2:Rep m v2 (.int .i64 j))(h3:Rep m v3 (.int .i64 n))(h4:Rep m v4 (.dsl 5 (l.map tv))) :
  v0=.int .i64 k/\v1=.int .i64 i/\v2=.int .i64 j/\v3=.int .i64 n/\∃A cap,v4=.slice A l.length cap:=by
 cases h0;cases h1;cases h2;cases h3;refine⟨rfl,rfl,rfl,rfl,?_⟩;generalize hz:SV.dsl 5 (l.map tv)=z at h4;cases h4 with
 |dsl0 sz A cap=>
  cases l with
  |nil=>exact⟨A,cap,rfl⟩
  |cons t l=>simp at hz
 |dsl sz L cap b off vs _ _ _ _ _ _ _=>
  cases hz;rw[q_g];exact⟨_,_,rfl⟩
 |_=>cases hz
def Al9{v:Value}{k i j n:Int}{l:List Tm}(h:Rep m v (.agg true (tv (.mk k i j n l)))) :
  ∃A cap,v=.agg #[.int .i64 k,.int .i64 i,.int .i64 j,.int .i64 n,.slice A l.length cap]/\Rep m (.slice A l.length cap) (.dsl 5 (l.map tv)):=by
 rw[Bp] at h;generalize hz:SV.agg true [.int .i64 k,.int .i64 i,.int .i64 j,.int .i64 n,.dsl 5 (l.map tv)]=z at h;cases h with
 |agg vs L h0 hl hr=>
  cases hz
  match vs,hl with
  |[a,b,c,d,e],_=>
   have h4:=hr 4 e _ rfl rfl;obtain⟨rfl,rfl,rfl,rfl,A,cap,rfl⟩:=Abc (hr 0 a _ rfl rfl) (hr 1 b _ rfl rfl) (hr 2 c _ rfl rfl) (hr 3 d _ rfl rfl) h4;exact⟨A,cap,rfl,h4⟩
 |_=>cases hz
def Ama{A:Option Addr}{cap:Nat}{k i j n:Int}{l:List Tm}(h:Rep m (.slice A l.length cap) (.dsl 5 (l.map tv))):Rep m (.agg #[.int .i64 k,.int .i64 i,.int .i64 j,.int .i64 n,.slice A l.length cap]) (.agg true (tv (.mk k i j n l))):=by
 rw[Bp];refine .agg [.int .i64 k,.int .i64 i,.int .i64 j,.int .i64 n,.slice A l.length cap] _ (by intro v hv;simp only[q_kb,q_kc,or_false] at hv;rcases hv with rfl|rfl|rfl|rfl|rfl<;>rfl) rfl (fun q v x h1 h2=>?_)
 match q,h1,h2 with
 |0,h1,h2=>cases h1;cases h2;exact .int _ _
 |1,h1,h2=>cases h1;cases h2;exact .int _ _
 |2,h1,h2=>cases h1;cases h2;exact .int _ _
 |3,h1,h2=>cases h1;cases h2;exact .int _ _
 |4,h1,h2=>cases h1;cases h2;exact h
 |q+5,h1,h2=>simp at h1
def A1m{A:Option Addr}{cap:Nat}{l:List Tm}(h:Rep m (.slice A l.length cap) (.dsl 5 (l.map tv))):∃blk off,(0<l.length->A=some ⟨blk,off,none⟩) /\
  ∀x,x<l.length->∃As cs,Rep m (.slice As (l[x]?.getD default).kids.length cs) (.dsl 5 ((l[x]?.getD default).kids.map tv)) /\
   m blk (off+x*5)=some (.int .i64 (l[x]?.getD default).k)/\m blk (off+x*5+1)=some (.int .i64 (l[x]?.getD default).i)/\m blk (off+x*5+2)=some (.int .i64 (l[x]?.getD default).j)/\m blk (off+x*5+3)=some (.int .i64 (l[x]?.getD default).n) /\
   m blk (off+x*5+4)=some (.slice As (l[x]?.getD default).kids.length cs):=by
 generalize hv:Value.slice A l.length cap=v at h;generalize hz:SV.dsl 5 (l.map tv)=z at h;cases h with
 |dsl0 sz A' cap'=>
  cases l with
  |nil=>exact⟨0,0,fun h=>absurd h (Nat.lt_irrefl _),fun x hx=>absurd hx (q_kq _)⟩
  |cons t l=>simp at hz
 |dsl sz L cap' b off vs ho Iz Ij hrl Bl hm hr=>
  cases hz;injection hv with hA hn Nr
  refine⟨b,off,fun _=>hA,fun x hx=>?_⟩;have Mr:=fun (q:Nat) (hq:q<5)=>Pr (rows5 l) x q hq
  have Cv:(l.map tv)[x]?=some (tv (l[x]?.getD default)):=by rw[q_ji,q_f hx];rfl
  rw[Cv] at Mr;simp only[Option.bind_some] at Mr;generalize (l[x]?.getD default)=t at *
  obtain⟨k,i,j,n,ks⟩:=t;have Ix:∀q,q<5->∃v,vs[x*5+q]?=some v/\m b (off+(x*5+q))=some v/\∀y,(tv (.mk k i j n ks))[q]?=some y->Rep m v y:=fun q hq=>by
   have hf:=Mr q hq;have Aq:x*5+q<vs.length:=by
    rw[Bl];have:((l.map tv).flatten)[x*5+q]?≠none:=by
     rw[hf,Bp]
     match q,hq with
     |0,_=>simp
     |1,_=>simp
     |2,_=>simp
     |3,_=>simp
     |4,_=>simp
    exact Decidable.byContradiction fun h=>this (q_jd (by omega))
   refine⟨vs[x*5+q],q_f Aq,hm _ _ (q_f Aq),fun y hy=>?_⟩;exact hr _ _ _ (q_f Aq) (by rw[hf];exact hy)
  obtain⟨v0,_,m0,r0⟩:=Ix 0 (by decide);obtain⟨v1,_,m1,r1⟩:=Ix 1 (by decide);obtain⟨v2,_,m2,r2⟩:=Ix 2 (by decide);obtain⟨v3,_,m3,r3⟩:=Ix 3 (by decide);obtain⟨v4,_,m4,r4⟩:=Ix 4 (by decide);rw[Bp] at r0 r1 r2 r3 r4;have h4:=r4 _ rfl;obtain⟨rfl,rfl,rfl,rfl,As,cs,rfl⟩:=Abc (r0 _ rfl) (r1 _ rfl) (r2 _ rfl) (r3 _ rfl) h4;exact⟨As,cs,h4,m0,m1,m2,m3,m4⟩
 |_=>cases hz
def Agy(k p:Int):If k p=Cn k p:=rfl
def Ayu(k:Int):lvN k=0\/lvN k=1\/lvN k=2:=by
 unfold lvN
 repeat' split
 all_goals simp
def A5x(m:Mem)(B b:Nat)(t:Tm):TOk t->∀(w:Int) (d:Nat) (v:Value),Cz t w=true->Da t<=d->d+2*Du t<=100000000->Rep m v (.agg true (tv t))->Wy (MM m B) B b v d (txT t d):=by
 induction t using Tm.ind with
 |h k i j n l ih=>
  intro hok w d v hr hf hd hv;obtain⟨f1,f2,f3,f4,hb,hl⟩:=Abv hok;have hn:=Afl (Sc hr).1;obtain⟨A,cap,rfl,Jn⟩:=Al9 hv
  by_cases hk:k=2
  ·subst hk;rw[Aga];rw[Da,if_pos rfl] at hf;obtain⟨z,hz⟩:∃z:Nat,(d:Int)-1-i=z:=⟨((d:Int)-1-i).toNat,by omega⟩
   refine A5w Fv (by unfold wrap64;omega) rfl ?_;rw[hz];exact Af4 (by omega)
  ·have Rq:=Amc hr;have Yr:l.length<=100:=by
    have h1:=(Sc hr).2;have h2:=Ak1 k n;omega
   obtain⟨blk,off,hA,hK⟩:=A1m Jn;have H:∀x,∃(As:Option Addr) (cs:Nat),x<l.length->Rep m (.slice As (l[x]?.getD default).kids.length cs) (.dsl 5 ((l[x]?.getD default).kids.map tv)) /\
     m blk (off+x*5)=some (.int .i64 (l[x]?.getD default).k)/\m blk (off+x*5+1)=some (.int .i64 (l[x]?.getD default).i)/\m blk (off+x*5+2)=some (.int .i64 (l[x]?.getD default).j)/\m blk (off+x*5+3)=some (.int .i64 (l[x]?.getD default).n) /\
     m blk (off+x*5+4)=some (.slice As (l[x]?.getD default).kids.length cs):=fun x=>by
    by_cases hx:x<l.length
    ·obtain⟨As,cs,h⟩:=hK x hx;exact⟨As,cs,fun _=>h⟩
    ·exact⟨none,0,fun h=>absurd h hx⟩
   obtain⟨sa,hsa⟩:=Classical.axiomOfChoice H;obtain⟨sc,hsc⟩:=Classical.axiomOfChoice hsa;rw[Af9 hk];have Zb:k=23->1<=n/\n<=21:=fun h=>by subst h;exact Am9 hr
   have hw:=Aro (i:=i) (j:=j) (rows:=l.map tv) Rq hk Zb;rw[<-Bp] at hw;have key:=A5u (P:=MM m B) (b:=b) Fv (k:=k) (i:=i) (j:=j) (n:=n) (A:=A) (len:=l.length) (cap:=cap) (d:=d) (L:=lvN k) (wd:=wdB k n) (ni:=Lib.itoa i) (nj:=Lib.itoa j) (nd:=vB d) (nd1:=vB ((d+1:Nat):Int)) hk (Ayu k)
    (Wr hw _ rfl (Wl hv) (fun _ _ h=>A1q h))
    (fun _=>Abu ⟨by omega,by omega⟩) (fun _=>Abu ⟨by omega,by omega⟩) (Af4 (by omega)) (Af4 (n:=d+1) (by omega)) (by omega)
    (part:=txP k d l) (kt:=fun x=>txT (l[x]?.getD default) (d+(If k x).toNat))
    (ki:=fun x=>(l[x]?.getD default).k) (ii:=fun x=>(l[x]?.getD default).i) (ji:=fun x=>(l[x]?.getD default).j) (ui:=fun x=>(l[x]?.getD default).n)
    (sa:=sa) (sl:=fun x=>(l[x]?.getD default).kids.length) (sc:=sc) (blk:=blk) (off:=off)
    rfl (fun x=>by
     rw[txP,txK];unfold Ps;rw[Agy];split<;>simp) (fun x hx=>Af7 k d l hx) hA Yr
    (fun x hx W hW=>by
     obtain⟨_,m0,m1,m2,m3,m4⟩:=hsc x hx;have hc:=hW.ok.1;exact⟨hc _ _ _ m0,hc _ _ _ m1,hc _ _ _ m2,hc _ _ _ m3,hc _ _ _ m4⟩)
    (fun x hx=>by
     obtain⟨Cu,_⟩:=hsc x hx;have hm:=Fg (d:=default) hx;obtain⟨w',hw'⟩:=Uf hr hm;have h1:=Aab hm;have h3:=Pk k x;rw[Yj] at hd;have hfk:=Aij hk hx hf;rw[Agy];refine ih _ hm (hl _ hm) w' _ _ hw' hfk (by omega) ?_;generalize (l[x]?.getD default)=u at *
     obtain⟨uk,ui,uj,un,ul⟩:=u;exact Ama Cu)
   exact key
end
def MM.here{m:Mem}{w:World}(h:Fk m w):MM m w.heap.size w:=⟨w,rfl,h,Below.refl _ _⟩
def Ano{t:Tm}(ht:TOk t){wt:Int}{d:Nat}(hr:Cz t wt=true)(hf:Da t<=d)(hd:d<=1000)(hh:Du t<=1000)(hs:Fx t<=1000000){m:Mem}{w:World}(hm:Fk m w){v:Value}(hv:Rep m v (.agg true (tv t))) :
  Calls Tryz.prog 33 #[v,.int .i64 d] w fun e w'=>e=.returned (.string ⟨(txT t d).toArray⟩)/\Below w.heap.size w w':=by
 obtain⟨k,i,j,n,l⟩:=t;have c1:=q9 _ ht;have c2:=Qx _ ht (by omega);rw[Qk hr] at c1;rw[show Gy (.mk k i j n l)=Da (.mk k i j n l) by unfold Gy;rw[if_pos (Qk hr)]] at c2;have t1:∀B,Hw (MM m B) 64 [v] (.bool true):=fun B=>Wr c1 [v] rfl (Wl hv) (fun _ _ h=>by cases h;rfl)
 have t2:∀B,Hw (MM m B) 55 [v] (.int .i64 (Da (.mk k i j n l))):=fun B=>Wr c2 [v] rfl (Wl hv) (fun _ _ h=>by cases h;rfl)
 have t3:∀B b,Wy (MM m B) B b v d (txT (.mk k i j n l) d):=fun B b=>A5x m B b _ ht wt d v hr hf (by omega) hv
 have Bl:=Af8 _ wt d hr (by omega);have Bl:(txT (.mk k i j n l) d).length<=1000000000:=by omega
 have n1:¬((d:Int)<0):=by omega
 have n2:¬((1000000:Int)<(d:Int)):=by omega
 have n3:¬((d:Int)<Da (.mk k i j n l)):=by omega
 have hw:=MM.here hm;obtain⟨A,cap,rfl,_⟩:=Al9 hv;generalize Da (.mk k i j n l)=fr at *
 generalize txT (.mk k i j n l) d=T at *
 clear c1 c2 ht hr hf hh hs hm hv;have hb0:Below w.heap.size w (w.alloc (.cells #[.int .i64 k,.int .i64 i,.int .i64 j,.int .i64 n,.slice A l.length cap] 25)):=(Below.refl _ w).alloc (q_ja _) _;have h0:(w.alloc (.cells #[.int .i64 k,.int .i64 i,.int .i64 j,.int .i64 n,.slice A l.length cap] 25)).heap[w.heap.size]?=some (.cells #[.int .i64 k,.int .i64 i,.int .i64 j,.int .i64 n,.slice A l.length cap] 25 (0,0)):=Array.getElem?_push_size;have hw0:MM m w.heap.size _:=Fv hw hb0;have Ji:w.heap.size<=(w.alloc (.cells #[.int .i64 k,.int .i64 i,.int .i64 j,.int .i64 n,.slice A l.length cap] 25)).heap.size:=hb0.size;have Cf:(w.alloc (.cells #[.int .i64 k,.int .i64 i,.int .i64 j,.int .i64 n,.slice A l.length cap] 25)).heap.size=w.heap.size+1:=by simp
 have hszH:=Lib.hid Cf;clear Cf;have r1:=t1 _ _ hw0
 go_enter Tryz.func33,Tryz.ntmps33
 go_wp2_with (go_at_call 64;refine r1.mono ?_)
 generalize w.alloc (.cells #[.int .i64 k,.int .i64 i,.int .i64 j,.int .i64 n,.slice A l.length cap] 25)=w0 at *
 generalize Nz:w.heap.size=tb at *
 clear r1
 first|(rintro e W1 rfl k1)|(rintro e W1 ⟨rfl,k1⟩)
 have k1:Below w0.heap.size w0 W1:=by rw[hszH.out];exact k1
 have h1:=Pb h0 k1;have hw1:MM m tb W1:=Fv hw0 (Hl k1 Ji);have b1:=hb0.trans (Hl k1 Ji);have d0:=Lib.cell_of_heap h1 0;have d1:=Lib.cell_of_heap h1 1;have d2:=Lib.cell_of_heap h1 2;have d3:=Lib.cell_of_heap h1 3;have d4:=Lib.cell_of_heap h1 4;have r2:=t2 _ _ hw1
 go_wp2_with (go_at_call 55;refine r2.mono ?_)
 clear r2
 first|(rintro e W2 rfl k2)|(rintro e W2 ⟨rfl,k2⟩)
 have Nn:=q_ko Ji k1.size;have h2:=Pb h1 k2;have hw2:MM m tb W2:=Fv hw1 (Hl k2 Nn);have b2:=b1.trans (Hl k2 Nn);have hB2:=q_ko Nn k2.size;clear d0 d1 d2 d3 d4;have f3:=Lib.IsBuilderF.of (Lib.fresh_isBuilder 53 5 W2);have k3:Below W2.heap.size W2 (W2.alloc (.cells #[.pointer none,.slice none 0 0] 53)):=(Below.refl _ W2).alloc (q_ja _) _;have h3:=Pb h2 k3;have Zc:MM m W2.heap.size _:=Fv (MM.here hw2.ok) k3;have Xr:=k3.size;have e0:=Lib.cell_of_heap h3 0;have e1:=Lib.cell_of_heap h3 1;have e2:=Lib.cell_of_heap h3 2;have e3:=Lib.cell_of_heap h3 3;have e4:=Lib.cell_of_heap h3 4;have r3:=t3 _ _ [] _ f3 Zc Xr (by show 0+_<=_;omega)
 go_wp2_with (go_at_call 65;refine r3.mono ?_)
 clear r3
 first|(rintro e W4 rfl f4 k4 o4)|(rintro e W4 ⟨rfl,f4,k4,o4⟩)
 rw[q_km] at f4
 go_wp2_with (go_at_call 34;refine (Ag2 f4 (q_ko Xr k4.size)).mono ?_)
 first|(rintro e W5 rfl k5 _)|(rintro e W5 ⟨rfl,k5,_⟩)
 go_wp2
 go_ret
 rw[Nz];exact⟨rfl,b2.trans (Hl (k3.trans (k4.trans k5)) hB2)⟩
def Arw{cl:Bool}{c:Nat}{cells:List SV}:cut cl 28 true 5 c cells=.agg cl ((cells.drop c).take 5):=by simp[cut]
attribute [go_sem] Arw
structure XG where
 ctx:List En
 eq:Bool
 i:Int
 a:Tm
 u:Tm
 b:Tm
 v:Tm
 h:Tm
def xgV(x:XG):List SV:=.dsl 6 (x.ctx.map En.v)::.bool x.eq::.int .i64 x.i::(tv x.a++(tv x.u++(tv x.b++(tv x.v++tv x.h))))
def Un(x:XG):(xgV x).length=28/\(xgV x)[0]?=some (.dsl 6 (x.ctx.map En.v))/\(xgV x)[1]?=some (.bool x.eq)/\(xgV x)[2]?=some (.int .i64 x.i) /\
  ((xgV x).drop 3).take 5=tv x.a/\((xgV x).drop 8).take 5=tv x.u/\((xgV x).drop 13).take 5=tv x.b/\((xgV x).drop 18).take 5=tv x.v/\((xgV x).drop 23).take 5=tv x.h:=by
 obtain⟨C,q,i,⟨k1,i1,j1,n1,l1⟩,⟨k2,i2,j2,n2,l2⟩,⟨k3,i3,j3,n3,l3⟩,⟨k4,i4,j4,n4,l4⟩,⟨k5,i5,j5,n5,l5⟩⟩:=x;unfold xgV;rw[Bp,Bp,Bp,Bp,Bp];exact⟨rfl,rfl,rfl,rfl,rfl,rfl,rfl,rfl,rfl⟩
structure XG.ok(x:XG):Prop where
 c:Ab7 x.ctx
 i:fit x.i
 a:TOk x.a/\Du x.a<=1000
 u:TOk x.u/\Du x.u<=1000
 b:TOk x.b/\Du x.b<=1000
 v:TOk x.v/\Du x.v<=1000
 h:TOk x.h/\Du x.h<=1000
def Me:Tm->Bool
 |.mk k i j n l=>(k==0) && ((i==0) && ((j==0) && ((n==0) && ((l.length:Int)==0))))
def inB(n:Nat)(t:Tm):Bool:=decide (Gy t<=(n:Int))
def Mg(x:XG):Bool:=Lq x.ctx && (lev x.i && ((Fd x.a && inB x.ctx.length x.a) && ((Fd x.u && inB x.ctx.length x.u) &&
 (if x.eq then (Fd x.b && inB x.ctx.length x.b) && ((Fd x.v && inB x.ctx.length x.v) && (Cz x.h 2 && inB x.ctx.length x.h)) else Me x.b && (Me x.v && Me x.h)))))
def Xd{t:Tm}(ht:TOk t/\Du t<=1000)(n:Nat):Con 21 [.agg true (tv t),.int .i64 n] (.bool (inB n t)):=by
 have c2:=Qx t ht.1 (by omega);have hz:=Bz t;unfold inB;refine Bt mixed Tryz.func21 tr21 ?_
 repeat' first
 |simp only[go_sem,seval,hz]
 |refine Ae c2 ?_
def Ack(t:Tm):Con 22 [.agg true (tv t),.agg true z5] (.bool (Me t)):=by
 obtain⟨k,i,j,n,l⟩:=t;rw[Bp];unfold Me z5;have hl:(l.map tv).length=l.length:=by simp
 refine Bt mixed Tryz.func22 tr22 ?_;have e1:(k != 0)=!(k==0):=rfl;have e2:(i != 0)=!(i==0):=rfl;have e3:(j != 0)=!(j==0):=rfl;have e4:(n != 0)=!(n==0):=rfl;have e5:((l.length:Int) != 0)=!((l.length:Int)==0):=rfl
 by_cases hl0:l=[]
 ·subst hl0;cases h1:(k==0)<;>cases h2:(i==0)<;>cases h3:(j==0)<;>cases h4:(n==0) <;>
   (simp only[go_sem,seval,e1,e2,e3,e4,h1,h2,h3,h4] ;try (refine Ff 1 (Bk ?_);simp only[go_sem,seval]))
 ·have h5:((l.length:Int)==0)=false:=by
   rw[beq_eq_false_iff_ne];intro h;exact hl0 (q_ky.1 (by omega))
  generalize l.map tv=rows at *
  cases h1:(k==0)<;>cases h2:(i==0)<;>cases h3:(j==0)<;>cases h4:(n==0)<;>simp only[go_sem,seval,e1,e2,e3,e4,e5,h1,h2,h3,h4,hl,h5,forall_const]
def Acs(t:Tm):Con 26 [.agg true (tv t)] (.bool (Me t)):=by
 obtain⟨k,i,j,n,l⟩:=t;rw[Bp];unfold Me;have hl:(l.map tv).length=l.length:=by simp
 generalize l.map tv=rows at *
 refine Bt mixed Tryz.func26 tr26 ?_;cases h1:(k==0)<;>cases h2:(i==0)<;>cases h3:(j==0)<;>cases h4:(n==0)<;>simp only[go_sem,seval,h1,h2,h3,h4,hl,forall_const]<;>(first|done|rfl|skip)
def r6{t:Tm}(ht:TOk t/\Du t<=1000)(n:Nat):Con 25 [.int .i64 n,.agg true (tv t)] (.bool (Fd t && inB n t)):=by
 have c1:=Acq t ht.1;have c2:=q8 t ht.1;have hz:=Bz t;unfold inB;refine Bt mixed Tryz.func25 tr25 ?_;generalize Fd t=m at *
 cases m <;>
  (repeat' first
  |simp only[go_sem,seval,hz]
  |refine Ae c1 ?_
  |refine Ae c2 ?_)
def Ahp{x:XG}(hx:x.ok):Con 8 [.agg true (xgV x)] (.bool (Mg x)):=by
 obtain⟨hl,f0,f1,f2,fa,fu,fb,fv,fh⟩:=Un x;have c0:=Ap1 x.ctx hx.c;have a1:=Nl x.a hx.a.1;have u1:=Nl x.u hx.u.1;have b1:=Nl x.b hx.b.1;have v1:=Nl x.v hx.v.1;have a2:=Xd hx.a x.ctx.length;have u2:=Xd hx.u x.ctx.length;have b2:=Xd hx.b x.ctx.length;have v2:=Xd hx.v x.ctx.length;have h2:=Xd hx.h x.ctx.length;have h1:=p8 x.h hx.h.1;have bz:=Ack x.b;have vz:=Ack x.v;have hz:=Ack x.h;have hn:(x.ctx.map En.v).length=x.ctx.length:=by simp
 have ta:=Bz x.a;have tu:=Bz x.u;have tb:=Bz x.b;have tvv:=Bz x.v;have th:=Bz x.h;unfold Mg;obtain⟨ctx,eq,i,a,u,b,v,h⟩:=x;dsimp only at *
 clear hx;unfold z5 at bz vz hz;generalize xgV ⟨ctx,eq,i,a,u,b,v,h⟩=r at *
 generalize Lq ctx=bc at *
 generalize Fd a=ma at *
 generalize Fd u=mu at *
 generalize Fd b=mb at *
 generalize Fd v=mv at *
 generalize inB ctx.length a=ia at *
 generalize inB ctx.length u=iu at *
 generalize inB ctx.length b=ib at *
 generalize inB ctx.length v=iv at *
 generalize inB ctx.length h=ih at *
 generalize Cz h 2=mh at *
 generalize Me b=zb at *
 generalize Me v=zv at *
 generalize Me h=zh at *
 generalize tv a=ra at *
 generalize tv u=ru at *
 generalize tv b=rb at *
 generalize tv v=rv at *
 generalize tv h=rh at *
 generalize ctx.map En.v=rows at *
 refine Bt mixed Tryz.func8 tr8 ?_;cases bc
 ·repeat' first
  |simp only[go_sem,seval,hl,f0,f1,f2,fa,fu,fb,fv,fh,hn,ta,tu,tb,tvv,th,forall_const]
  |refine Ae c0 ?_
  |refine Ae a1 ?_
  |refine Ae u1 ?_
  |refine Ae b1 ?_
  |refine Ae v1 ?_
  |refine Ae h1 ?_
  |refine Ae a2 ?_
  |refine Ae u2 ?_
  |refine Ae b2 ?_
  |refine Ae v2 ?_
  |refine Ae h2 ?_
  |refine Ae bz ?_
  |refine Ae vz ?_
  |refine Ae hz ?_
  |intro _
 ·by_cases i1:i<0
  ·rw[Ae6 i1]
   repeat' first
   |simp only[go_sem,seval,hl,f0,f1,f2,fa,fu,fb,fv,fh,hn,ta,tu,tb,tvv,th,forall_const,i1]
   |refine Ae c0 ?_
   |refine Ae a1 ?_
   |refine Ae u1 ?_
   |refine Ae b1 ?_
   |refine Ae v1 ?_
   |refine Ae h1 ?_
   |refine Ae a2 ?_
   |refine Ae u2 ?_
   |refine Ae b2 ?_
   |refine Ae v2 ?_
   |refine Ae h2 ?_
   |refine Ae bz ?_
   |refine Ae vz ?_
   |refine Ae hz ?_
   |intro _
  ·by_cases i2:1000<i
   ·rw[Ae4 i2]
    repeat' first
    |simp only[go_sem,seval,hl,f0,f1,f2,fa,fu,fb,fv,fh,hn,ta,tu,tb,tvv,th,forall_const,i1,i2]
    |refine Ae c0 ?_
    |refine Ae a1 ?_
    |refine Ae u1 ?_
    |refine Ae b1 ?_
    |refine Ae v1 ?_
    |refine Ae h1 ?_
    |refine Ae a2 ?_
    |refine Ae u2 ?_
    |refine Ae b2 ?_
    |refine Ae v2 ?_
    |refine Ae h2 ?_
    |refine Ae bz ?_
    |refine Ae vz ?_
    |refine Ae hz ?_
    |intro _
   ·rw[Ae5 i1 i2];cases ma
    ·repeat' first
     |simp only[go_sem,seval,hl,f0,f1,f2,fa,fu,fb,fv,fh,hn,ta,tu,tb,tvv,th,forall_const,i1,i2]
     |refine Ae c0 ?_
     |refine Ae a1 ?_
     |refine Ae u1 ?_
     |refine Ae b1 ?_
     |refine Ae v1 ?_
     |refine Ae h1 ?_
     |refine Ae a2 ?_
     |refine Ae u2 ?_
     |refine Ae b2 ?_
     |refine Ae v2 ?_
     |refine Ae h2 ?_
     |refine Ae bz ?_
     |refine Ae vz ?_
     |refine Ae hz ?_
     |intro _
    ·cases mu
     ·repeat' first
      |simp only[go_sem,seval,hl,f0,f1,f2,fa,fu,fb,fv,fh,hn,ta,tu,tb,tvv,th,forall_const,i1,i2]
      |refine Ae c0 ?_
      |refine Ae a1 ?_
      |refine Ae u1 ?_
      |refine Ae b1 ?_
      |refine Ae v1 ?_
      |refine Ae h1 ?_
      |refine Ae a2 ?_
      |refine Ae u2 ?_
      |refine Ae b2 ?_
      |refine Ae v2 ?_
      |refine Ae h2 ?_
      |refine Ae bz ?_
      |refine Ae vz ?_
      |refine Ae hz ?_
      |intro _
     ·cases ia
      ·repeat' first
       |simp only[go_sem,seval,hl,f0,f1,f2,fa,fu,fb,fv,fh,hn,ta,tu,tb,tvv,th,forall_const,i1,i2]
       |refine Ae c0 ?_
       |refine Ae a1 ?_
       |refine Ae u1 ?_
       |refine Ae b1 ?_
       |refine Ae v1 ?_
       |refine Ae h1 ?_
       |refine Ae a2 ?_
       |refine Ae u2 ?_
       |refine Ae b2 ?_
       |refine Ae v2 ?_
       |refine Ae h2 ?_
       |refine Ae bz ?_
       |refine Ae vz ?_
       |refine Ae hz ?_
       |intro _
      ·cases iu
       ·repeat' first
        |simp only[go_sem,seval,hl,f0,f1,f2,fa,fu,fb,fv,fh,hn,ta,tu,tb,tvv,th,forall_const,i1,i2]
        |refine Ae c0 ?_
        |refine Ae a1 ?_
        |refine Ae u1 ?_
        |refine Ae b1 ?_
        |refine Ae v1 ?_
        |refine Ae h1 ?_
        |refine Ae a2 ?_
        |refine Ae u2 ?_
        |refine Ae b2 ?_
        |refine Ae v2 ?_
        |refine Ae h2 ?_
        |refine Ae bz ?_
        |refine Ae vz ?_
        |refine Ae hz ?_
        |intro _
       ·cases eq
        ·cases zb
         ·repeat' first
          |simp only[go_sem,seval,hl,f0,f1,f2,fa,fu,fb,fv,fh,hn,ta,tu,tb,tvv,th,forall_const,i1,i2]
          |refine Ae c0 ?_
          |refine Ae a1 ?_
          |refine Ae u1 ?_
          |refine Ae b1 ?_
          |refine Ae v1 ?_
          |refine Ae h1 ?_
          |refine Ae a2 ?_
          |refine Ae u2 ?_
          |refine Ae b2 ?_
          |refine Ae v2 ?_
          |refine Ae h2 ?_
          |refine Ae bz ?_
          |refine Ae vz ?_
          |refine Ae hz ?_
          |intro _
         ·cases zv
          ·repeat' first
           |simp only[go_sem,seval,hl,f0,f1,f2,fa,fu,fb,fv,fh,hn,ta,tu,tb,tvv,th,forall_const,i1,i2]
           |refine Ae c0 ?_
           |refine Ae a1 ?_
           |refine Ae u1 ?_
           |refine Ae b1 ?_
           |refine Ae v1 ?_
           |refine Ae h1 ?_
           |refine Ae a2 ?_
           |refine Ae u2 ?_
           |refine Ae b2 ?_
           |refine Ae v2 ?_
           |refine Ae h2 ?_
           |refine Ae bz ?_
           |refine Ae vz ?_
           |refine Ae hz ?_
           |intro _
          ·repeat' first
           |simp only[go_sem,seval,hl,f0,f1,f2,fa,fu,fb,fv,fh,hn,ta,tu,tb,tvv,th,forall_const,i1,i2]
           |refine Ae c0 ?_
           |refine Ae a1 ?_
           |refine Ae u1 ?_
           |refine Ae b1 ?_
           |refine Ae v1 ?_
           |refine Ae h1 ?_
           |refine Ae a2 ?_
           |refine Ae u2 ?_
           |refine Ae b2 ?_
           |refine Ae v2 ?_
           |refine Ae h2 ?_
           |refine Ae bz ?_
           |refine Ae vz ?_
           |refine Ae hz ?_
           |intro _
        ·cases mb
         ·repeat' first
          |simp only[go_sem,seval,hl,f0,f1,f2,fa,fu,fb,fv,fh,hn,ta,tu,tb,tvv,th,forall_const,i1,i2]
          |refine Ae c0 ?_
          |refine Ae a1 ?_
          |refine Ae u1 ?_
          |refine Ae b1 ?_
          |refine Ae v1 ?_
          |refine Ae h1 ?_
          |refine Ae a2 ?_
          |refine Ae u2 ?_
          |refine Ae b2 ?_
          |refine Ae v2 ?_
          |refine Ae h2 ?_
          |refine Ae bz ?_
          |refine Ae vz ?_
          |refine Ae hz ?_
          |intro _
         ·cases mv
          ·repeat' first
           |simp only[go_sem,seval,hl,f0,f1,f2,fa,fu,fb,fv,fh,hn,ta,tu,tb,tvv,th,forall_const,i1,i2]
           |refine Ae c0 ?_
           |refine Ae a1 ?_
           |refine Ae u1 ?_
           |refine Ae b1 ?_
           |refine Ae v1 ?_
           |refine Ae h1 ?_
           |refine Ae a2 ?_
           |refine Ae u2 ?_
           |refine Ae b2 ?_
           |refine Ae v2 ?_
           |refine Ae h2 ?_
           |refine Ae bz ?_
           |refine Ae vz ?_
           |refine Ae hz ?_
           |intro _
          ·cases mh
           ·repeat' first
            |simp only[go_sem,seval,hl,f0,f1,f2,fa,fu,fb,fv,fh,hn,ta,tu,tb,tvv,th,forall_const,i1,i2]
            |refine Ae c0 ?_
            |refine Ae a1 ?_
            |refine Ae u1 ?_
            |refine Ae b1 ?_
            |refine Ae v1 ?_
            |refine Ae h1 ?_
            |refine Ae a2 ?_
            |refine Ae u2 ?_
            |refine Ae b2 ?_
            |refine Ae v2 ?_
            |refine Ae h2 ?_
            |refine Ae bz ?_
            |refine Ae vz ?_
            |refine Ae hz ?_
            |intro _
           ·cases ib
            ·repeat' first
             |simp only[go_sem,seval,hl,f0,f1,f2,fa,fu,fb,fv,fh,hn,ta,tu,tb,tvv,th,forall_const,i1,i2]
             |refine Ae c0 ?_
             |refine Ae a1 ?_
             |refine Ae u1 ?_
             |refine Ae b1 ?_
             |refine Ae v1 ?_
             |refine Ae h1 ?_
             |refine Ae a2 ?_
             |refine Ae u2 ?_
             |refine Ae b2 ?_
             |refine Ae v2 ?_
             |refine Ae h2 ?_
             |refine Ae bz ?_
             |refine Ae vz ?_
             |refine Ae hz ?_
             |intro _
            ·cases iv
             ·repeat' first
              |simp only[go_sem,seval,hl,f0,f1,f2,fa,fu,fb,fv,fh,hn,ta,tu,tb,tvv,th,forall_const,i1,i2]
              |refine Ae c0 ?_
              |refine Ae a1 ?_
              |refine Ae u1 ?_
              |refine Ae b1 ?_
              |refine Ae v1 ?_
              |refine Ae h1 ?_
              |refine Ae a2 ?_
              |refine Ae u2 ?_
              |refine Ae b2 ?_
              |refine Ae v2 ?_
              |refine Ae h2 ?_
              |refine Ae bz ?_
              |refine Ae vz ?_
              |refine Ae hz ?_
              |intro _
             ·repeat' first
              |simp only[go_sem,seval,hl,f0,f1,f2,fa,fu,fb,fv,fh,hn,ta,tu,tb,tvv,th,forall_const,i1,i2]
              |refine Ae c0 ?_
              |refine Ae a1 ?_
              |refine Ae u1 ?_
              |refine Ae b1 ?_
              |refine Ae v1 ?_
              |refine Ae h1 ?_
              |refine Ae a2 ?_
              |refine Ae u2 ?_
              |refine Ae b2 ?_
              |refine Ae v2 ?_
              |refine Ae h2 ?_
              |refine Ae bz ?_
              |refine Ae vz ?_
              |refine Ae hz ?_
              |intro _
def Aho{x:XG}(hx:x.ok):Con 10 [.agg true (xgV x)] (.bool (Mg x)):=by
 obtain⟨hl,f0,f1,f2,fa,fu,fb,fv,fh⟩:=Un x;have c0:=Aqw x.ctx hx.c;have a1:=r6 hx.a x.ctx.length;have u1:=r6 hx.u x.ctx.length;have v1:=r6 hx.v x.ctx.length;have b1:=r6 hx.b x.ctx.length;have h1:=Acr x.h hx.h.1;have h2:=q8 x.h hx.h.1;rw[show Oi x.h=Cz x.h 2 from rfl] at h1;have hi:inB x.ctx.length x.h=decide (Gy x.h<=(x.ctx.length:Int)):=rfl;have bz:=Acs x.b;have vz:=Acs x.v;have hz:=Acs x.h;have hn:(x.ctx.map En.v).length=x.ctx.length:=by simp
 have ta:=Bz x.a;have tu:=Bz x.u;have tb:=Bz x.b;have tvv:=Bz x.v;have th:=Bz x.h;unfold Mg;rw[hi];clear hi;obtain⟨ctx,eq,i,a,u,b,v,h⟩:=x;dsimp only at *
 clear hx;generalize Gy h=fh0 at *
 generalize xgV ⟨ctx,eq,i,a,u,b,v,h⟩=r at *
 generalize Lq ctx=bc at *
 generalize Fd a=ma at *
 generalize Fd u=mu at *
 generalize Fd b=mb at *
 generalize Fd v=mv at *
 generalize inB ctx.length a=ia at *
 generalize inB ctx.length u=iu at *
 generalize inB ctx.length b=ib at *
 generalize inB ctx.length v=iv at *
 generalize Cz h 2=mh at *
 generalize Me b=zb at *
 generalize Me v=zv at *
 generalize Me h=zh at *
 generalize tv a=ra at *
 generalize tv u=ru at *
 generalize tv b=rb at *
 generalize tv v=rv at *
 generalize tv h=rh at *
 generalize ctx.map En.v=rows at *
 refine Bt mixed Tryz.func10 tr10 ?_;cases bc
 ·repeat' first
  |simp only[go_sem,seval,hl,f0,f1,f2,fa,fu,fb,fv,fh,hn,ta,tu,tb,tvv,th,forall_const]
  |refine Ae c0 ?_
  |refine Ae a1 ?_
  |refine Ae u1 ?_
  |refine Ae b1 ?_
  |refine Ae v1 ?_
  |refine Ae h1 ?_
  |refine Ae h2 ?_
  |refine Ae bz ?_
  |refine Ae vz ?_
  |refine Ae hz ?_
  |intro _
 ·by_cases i1:i<0
  ·rw[Ae6 i1]
   repeat' first
   |simp only[go_sem,seval,hl,f0,f1,f2,fa,fu,fb,fv,fh,hn,ta,tu,tb,tvv,th,forall_const,i1]
   |refine Ae c0 ?_
   |refine Ae a1 ?_
   |refine Ae u1 ?_
   |refine Ae b1 ?_
   |refine Ae v1 ?_
   |refine Ae h1 ?_
   |refine Ae h2 ?_
   |refine Ae bz ?_
   |refine Ae vz ?_
   |refine Ae hz ?_
   |intro _
  ·by_cases i2:1000<i
   ·rw[Ae4 i2]
    repeat' first
    |simp only[go_sem,seval,hl,f0,f1,f2,fa,fu,fb,fv,fh,hn,ta,tu,tb,tvv,th,forall_const,i1,i2]
    |refine Ae c0 ?_
    |refine Ae a1 ?_
    |refine Ae u1 ?_
    |refine Ae b1 ?_
    |refine Ae v1 ?_
    |refine Ae h1 ?_
    |refine Ae h2 ?_
    |refine Ae bz ?_
    |refine Ae vz ?_
    |refine Ae hz ?_
    |intro _
   ·rw[Ae5 i1 i2];cases ma
    ·repeat' first
     |simp only[go_sem,seval,hl,f0,f1,f2,fa,fu,fb,fv,fh,hn,ta,tu,tb,tvv,th,forall_const,i1,i2]
     |refine Ae c0 ?_
     |refine Ae a1 ?_
     |refine Ae u1 ?_
     |refine Ae b1 ?_
     |refine Ae v1 ?_
     |refine Ae h1 ?_
     |refine Ae h2 ?_
     |refine Ae bz ?_
     |refine Ae vz ?_
     |refine Ae hz ?_
     |intro _
    ·cases ia
     ·repeat' first
      |simp only[go_sem,seval,hl,f0,f1,f2,fa,fu,fb,fv,fh,hn,ta,tu,tb,tvv,th,forall_const,i1,i2]
      |refine Ae c0 ?_
      |refine Ae a1 ?_
      |refine Ae u1 ?_
      |refine Ae b1 ?_
      |refine Ae v1 ?_
      |refine Ae h1 ?_
      |refine Ae h2 ?_
      |refine Ae bz ?_
      |refine Ae vz ?_
      |refine Ae hz ?_
      |intro _
     ·cases mu
      ·repeat' first
       |simp only[go_sem,seval,hl,f0,f1,f2,fa,fu,fb,fv,fh,hn,ta,tu,tb,tvv,th,forall_const,i1,i2]
       |refine Ae c0 ?_
       |refine Ae a1 ?_
       |refine Ae u1 ?_
       |refine Ae b1 ?_
       |refine Ae v1 ?_
       |refine Ae h1 ?_
       |refine Ae h2 ?_
       |refine Ae bz ?_
       |refine Ae vz ?_
       |refine Ae hz ?_
       |intro _
      ·cases iu
       ·repeat' first
        |simp only[go_sem,seval,hl,f0,f1,f2,fa,fu,fb,fv,fh,hn,ta,tu,tb,tvv,th,forall_const,i1,i2]
        |refine Ae c0 ?_
        |refine Ae a1 ?_
        |refine Ae u1 ?_
        |refine Ae b1 ?_
        |refine Ae v1 ?_
        |refine Ae h1 ?_
        |refine Ae h2 ?_
        |refine Ae bz ?_
        |refine Ae vz ?_
        |refine Ae hz ?_
        |intro _
       ·cases eq
        ·cases zb
         ·repeat' first
          |simp only[go_sem,seval,hl,f0,f1,f2,fa,fu,fb,fv,fh,hn,ta,tu,tb,tvv,th,forall_const,i1,i2]
          |refine Ae c0 ?_
          |refine Ae a1 ?_
          |refine Ae u1 ?_
          |refine Ae b1 ?_
          |refine Ae v1 ?_
          |refine Ae h1 ?_
          |refine Ae h2 ?_
          |refine Ae bz ?_
          |refine Ae vz ?_
          |refine Ae hz ?_
          |intro _
         ·cases zv
          ·repeat' first
           |simp only[go_sem,seval,hl,f0,f1,f2,fa,fu,fb,fv,fh,hn,ta,tu,tb,tvv,th,forall_const,i1,i2]
           |refine Ae c0 ?_
           |refine Ae a1 ?_
           |refine Ae u1 ?_
           |refine Ae b1 ?_
           |refine Ae v1 ?_
           |refine Ae h1 ?_
           |refine Ae h2 ?_
           |refine Ae bz ?_
           |refine Ae vz ?_
           |refine Ae hz ?_
           |intro _
          ·repeat' first
           |simp only[go_sem,seval,hl,f0,f1,f2,fa,fu,fb,fv,fh,hn,ta,tu,tb,tvv,th,forall_const,i1,i2]
           |refine Ae c0 ?_
           |refine Ae a1 ?_
           |refine Ae u1 ?_
           |refine Ae b1 ?_
           |refine Ae v1 ?_
           |refine Ae h1 ?_
           |refine Ae h2 ?_
           |refine Ae bz ?_
           |refine Ae vz ?_
           |refine Ae hz ?_
           |intro _
        ·cases mb
         ·repeat' first
          |simp only[go_sem,seval,hl,f0,f1,f2,fa,fu,fb,fv,fh,hn,ta,tu,tb,tvv,th,forall_const,i1,i2]
          |refine Ae c0 ?_
          |refine Ae a1 ?_
          |refine Ae u1 ?_
          |refine Ae b1 ?_
          |refine Ae v1 ?_
          |refine Ae h1 ?_
          |refine Ae h2 ?_
          |refine Ae bz ?_
          |refine Ae vz ?_
          |refine Ae hz ?_
          |intro _
         ·cases ib
          ·repeat' first
           |simp only[go_sem,seval,hl,f0,f1,f2,fa,fu,fb,fv,fh,hn,ta,tu,tb,tvv,th,forall_const,i1,i2]
           |refine Ae c0 ?_
           |refine Ae a1 ?_
           |refine Ae u1 ?_
           |refine Ae b1 ?_
           |refine Ae v1 ?_
           |refine Ae h1 ?_
           |refine Ae h2 ?_
           |refine Ae bz ?_
           |refine Ae vz ?_
           |refine Ae hz ?_
           |intro _
          ·cases mv
           ·repeat' first
            |simp only[go_sem,seval,hl,f0,f1,f2,fa,fu,fb,fv,fh,hn,ta,tu,tb,tvv,th,forall_const,i1,i2]
            |refine Ae c0 ?_
            |refine Ae a1 ?_
            |refine Ae u1 ?_
            |refine Ae b1 ?_
            |refine Ae v1 ?_
            |refine Ae h1 ?_
            |refine Ae h2 ?_
            |refine Ae bz ?_
            |refine Ae vz ?_
            |refine Ae hz ?_
            |intro _
           ·cases iv
            ·repeat' first
             |simp only[go_sem,seval,hl,f0,f1,f2,fa,fu,fb,fv,fh,hn,ta,tu,tb,tvv,th,forall_const,i1,i2]
             |refine Ae c0 ?_
             |refine Ae a1 ?_
             |refine Ae u1 ?_
             |refine Ae b1 ?_
             |refine Ae v1 ?_
             |refine Ae h1 ?_
             |refine Ae h2 ?_
             |refine Ae bz ?_
             |refine Ae vz ?_
             |refine Ae hz ?_
             |intro _
            ·cases mh
             ·repeat' first
              |simp only[go_sem,seval,hl,f0,f1,f2,fa,fu,fb,fv,fh,hn,ta,tu,tb,tvv,th,forall_const,i1,i2]
              |refine Ae c0 ?_
              |refine Ae a1 ?_
              |refine Ae u1 ?_
              |refine Ae b1 ?_
              |refine Ae v1 ?_
              |refine Ae h1 ?_
              |refine Ae h2 ?_
              |refine Ae bz ?_
              |refine Ae vz ?_
              |refine Ae hz ?_
              |intro _
             ·repeat' first
              |simp only[go_sem,seval,hl,f0,f1,f2,fa,fu,fb,fv,fh,hn,ta,tu,tb,tvv,th,forall_const,i1,i2]
              |refine Ae c0 ?_
              |refine Ae a1 ?_
              |refine Ae u1 ?_
              |refine Ae b1 ?_
              |refine Ae v1 ?_
              |refine Ae h1 ?_
              |refine Ae h2 ?_
              |refine Ae bz ?_
              |refine Ae vz ?_
              |refine Ae hz ?_
              |intro _
def Nh(m:Mem)(cs:Array Value)(o:Nat)(t:Tm):Prop:=∃(A:Option Addr) (cap:Nat),Rep m (.slice A t.kids.length cap) (.dsl 5 (t.kids.map tv)) /\
 cs[o]?=some (.int .i64 t.k)/\cs[o+1]?=some (.int .i64 t.i)/\cs[o+2]?=some (.int .i64 t.j)/\cs[o+3]?=some (.int .i64 t.n)/\cs[o+4]?=some (.slice A t.kids.length cap)
section
variable{m:Mem}
def Xg{vs:List Value}{L:List SV}(hr:∀(j:Nat) v x,vs[j]?=some v->L[j]?=some x->Rep m v x)(hl:vs.length=L.length){o:Nat}{t:Tm}(ho:(L.drop o).take 5=tv t):Nh m vs.toArray o t:=by
 obtain⟨k,i,j,n,l⟩:=t;rw[Bp] at ho;have Ix:∀q,q<5->L[o+q]?=([SV.int .i64 k,.int .i64 i,.int .i64 j,.int .i64 n,.dsl 5 (l.map tv)])[q]?:=fun q hq=>by
  rw[<-ho,q_jx,if_pos hq,q_kk]
 have hv:∀q,q<5->∃v,vs[o+q]?=some v/\∀y,([SV.int .i64 k,.int .i64 i,.int .i64 j,.int .i64 n,.dsl 5 (l.map tv)])[q]?=some y->Rep m v y:=fun q hq=>by
  have h1:=Ix q hq;have Aq:o+q<L.length:=by
   refine Decidable.byContradiction fun h=>?_
   rw[q_jd (by omega)] at h1
   match q,hq,h1 with
   |0,_,h1=>cases h1
   |1,_,h1=>cases h1
   |2,_,h1=>cases h1
   |3,_,h1=>cases h1
   |4,_,h1=>cases h1
  have Yl:o+q<vs.length:=by omega
  exact⟨vs[o+q],q_f Yl,fun y hy=>hr _ _ _ (q_f Yl) (by rw[h1];exact hy)⟩
 obtain⟨v0,m0,r0⟩:=hv 0 (by decide);obtain⟨v1,m1,r1⟩:=hv 1 (by decide);obtain⟨v2,m2,r2⟩:=hv 2 (by decide);obtain⟨v3,m3,r3⟩:=hv 3 (by decide);obtain⟨v4,m4,r4⟩:=hv 4 (by decide);have h4:=r4 _ rfl;obtain⟨rfl,rfl,rfl,rfl,A,cap,rfl⟩:=Abc (r0 _ rfl) (r1 _ rfl) (r2 _ rfl) (r3 _ rfl) h4;have e:∀q:Nat,vs.toArray[q]?=vs[q]?:=fun q=>by simp
 exact⟨A,cap,h4,(e _).trans m0,(e _).trans m1,(e _).trans m2,(e _).trans m3,(e _).trans m4⟩
def A1r{v:Value}{x:XG}(h:Rep m v (.agg true (xgV x))):∃cs:Array Value,v=.agg cs/\cs.size=28 /\
  (∃A cap,cs[0]?=some (.slice A x.ctx.length cap)/\Rep m (.slice A x.ctx.length cap) (.dsl 6 (x.ctx.map En.v)))/\cs[1]?=some (.bool x.eq)/\cs[2]?=some (.int .i64 x.i) /\
  Nh m cs 3 x.a/\Nh m cs 8 x.u/\Nh m cs 13 x.b/\Nh m cs 18 x.v/\Nh m cs 23 x.h:=by
 obtain⟨hl,f0,f1,f2,fa,fu,fb,fv,fh⟩:=Un x;generalize hz:SV.agg true (xgV x)=z at h;cases h with
 |agg vs L h0 hvl hr=>
  injection hz with _ hL
  subst hL;have Ix:∀q y,(xgV x)[q]?=some y->∃v,vs[q]?=some v/\Rep m v y:=fun q y hy=>by
   have Aq:q<vs.length:=by have:=(q_jm.1 hy).1;omega
   exact⟨vs[q],q_f Aq,hr _ _ _ (q_f Aq) hy⟩
  obtain⟨v0,m0,r0⟩:=Ix 0 _ f0;obtain⟨v1,m1,r1⟩:=Ix 1 _ f1;obtain⟨v2,m2,r2⟩:=Ix 2 _ f2;cases r1;cases r2;refine⟨vs.toArray,rfl,by simpa using hvl.trans hl,?_,by simpa using m1,by simpa using m2,Xg hr hvl fa,Xg hr hvl fu,Xg hr hvl fb,Xg hr hvl fv,Xg hr hvl fh⟩;generalize hz:SV.dsl 6 (x.ctx.map En.v)=z at r0;cases r0 with
  |dsl0 sz A cap=>
   have hn:x.ctx=[]:=by
    cases hc:x.ctx with
    |nil=>rfl
    |cons e l=>rw[hc] at hz;simp at hz
   rw[hn];exact⟨A,cap,by simpa using m0,.dsl0 _ _ _⟩
  |dsl sz L cap b off ws q1 q2 q3 q4 q5 q6 q7=>
   cases hz;have hn:(x.ctx.map En.v).length=x.ctx.length:=by simp
   rw[hn] at m0;have q:=Rep.dsl (m:=m) 6 (x.ctx.map En.v) cap b off ws q1 q2 q3 q4 q5 q6 q7;rw[hn] at q;exact⟨_,cap,by simpa using m0,q⟩
  |_=>cases hz
 |_=>cases hz
def A1l{A:Option Addr}{cap:Nat}{C:List En}(h:Rep m (.slice A C.length cap) (.dsl 6 (C.map En.v))):∃blk off,(0<C.length->A=some ⟨blk,off,none⟩) /\
  ∀x,x<C.length->∃As cs,Rep m (.slice As (C[x]?.getD default).a.kids.length cs) (.dsl 5 ((C[x]?.getD default).a.kids.map tv)) /\
   m blk (off+x*6)=some (.int .i64 (C[x]?.getD default).a.k)/\m blk (off+x*6+1)=some (.int .i64 (C[x]?.getD default).a.i)/\m blk (off+x*6+2)=some (.int .i64 (C[x]?.getD default).a.j)/\m blk (off+x*6+3)=some (.int .i64 (C[x]?.getD default).a.n) /\
   m blk (off+x*6+4)=some (.slice As (C[x]?.getD default).a.kids.length cs)/\m blk (off+x*6+5)=some (.int .i64 (C[x]?.getD default).i):=by
 generalize hv:Value.slice A C.length cap=v at h;generalize hz:SV.dsl 6 (C.map En.v)=z at h;cases h with
 |dsl0 sz A' cap'=>
  cases C with
  |nil=>exact⟨0,0,fun h=>absurd h (Nat.lt_irrefl _),fun x hx=>absurd hx (q_kq _)⟩
  |cons t l=>simp at hz
 |dsl sz L cap' b off vs ho Iz Ij hrl Bl hm hr=>
  cases hz;injection hv with hA hn Nr
  refine⟨b,off,fun _=>hA,fun x hx=>?_⟩;have Mr:=fun (q:Nat) (hq:q<6)=>Pr (rows6 C) x q hq
  have Cv:(C.map En.v)[x]?=some (En.v (C[x]?.getD default)):=by rw[q_ji,q_f hx];rfl
  rw[Cv] at Mr;simp only[Option.bind_some] at Mr;generalize (C[x]?.getD default)=e at *
  obtain⟨⟨k,i,j,n,ks⟩,lv⟩:=e;have hev:En.v ⟨.mk k i j n ks,lv⟩=[.int .i64 k,.int .i64 i,.int .i64 j,.int .i64 n,.dsl 5 (ks.map tv),.int .i64 lv]:=by
   unfold En.v ev6;rw[Bp];rfl
  rw[hev] at Mr;have Ix:∀q,q<6->∃v,vs[x*6+q]?=some v/\m b (off+(x*6+q))=some v/\∀y,([SV.int .i64 k,.int .i64 i,.int .i64 j,.int .i64 n,.dsl 5 (ks.map tv),.int .i64 lv])[q]?=some y->Rep m v y:=fun q hq=>by
   have hf:=Mr q hq;have Aq:x*6+q<vs.length:=by
    rw[Bl];have:((C.map En.v).flatten)[x*6+q]?≠none:=by
     rw[hf]
     match q,hq with
     |0,_=>simp
     |1,_=>simp
     |2,_=>simp
     |3,_=>simp
     |4,_=>simp
     |5,_=>simp
    exact Decidable.byContradiction fun h=>this (q_jd (by omega))
   exact⟨vs[x*6+q],q_f Aq,hm _ _ (q_f Aq),fun y hy=>hr _ _ _ (q_f Aq) (by rw[hf];exact hy)⟩
  obtain⟨v0,_,m0,r0⟩:=Ix 0 (by decide);obtain⟨v1,_,m1,r1⟩:=Ix 1 (by decide);obtain⟨v2,_,m2,r2⟩:=Ix 2 (by decide);obtain⟨v3,_,m3,r3⟩:=Ix 3 (by decide);obtain⟨v4,_,m4,r4⟩:=Ix 4 (by decide);obtain⟨v5,_,m5,r5⟩:=Ix 5 (by decide);have h4:=r4 _ rfl;have h5:=r5 _ rfl;cases h5;obtain⟨rfl,rfl,rfl,rfl,As,cs,rfl⟩:=Abc (r0 _ rfl) (r1 _ rfl) (r2 _ rfl) (r3 _ rfl) h4;exact⟨As,cs,h4,m0,m1,m2,m3,m4,m5⟩
 |_=>cases hz
end
def Aos{B b:Nat}{l:List UInt8}{w:World}(h:IsB B b l w) :
  Calls Tryz.prog 30 #[.pointer (some ⟨b,0,none⟩)] w fun e w'=>e=.returned (.tuple #[])/\IsB B b [] w'/\Below B w w'/\Oth b w w':=by
 have key:∀p,Lib.BuilderAtF 53 5 B b p (Lib.byteCells l) w->Calls Tryz.prog 30 #[.pointer (some ⟨b,0,none⟩)] w fun e w'=>e=.returned (.tuple #[])/\IsB B b [] w'/\Below B w w'/\Oth b w w':=fun p hp=>by
  have hB:=hp.1;have q0:=hp.used (.pointer none);obtain⟨_,v,hb,hown,Dj⟩:=q0;have q1:Lib.BuilderAtF 53 5 B b (.pointer none) [] ((w.setCell ⟨b,0,none⟩ (.pointer none)).setCell ⟨b,1,none⟩ (.slice none 0 0)):=
   Lib.BuilderAtF.put (v':=.slice none 0 0) (bs':=[]) hB hb (World.ownsRowF_of (World.ownsRow_nil _ _ _ _)) (by decide)
  have q2:Below B w ((w.setCell ⟨b,0,none⟩ (.pointer none)).setCell ⟨b,1,none⟩ (.slice none 0 0)):=((Below.refl B w).setCell (p:=⟨b,0,none⟩) hB _).setCell (p:=⟨b,1,none⟩) hB _;have q3:Lib.OthersKept 5 (some b) w ((w.setCell ⟨b,0,none⟩ (.pointer none)).setCell ⟨b,1,none⟩ (.slice none 0 0)):=((Lib.OthersKept.refl _ _ w).setCell ⟨b,0,none⟩ rfl _).setCell ⟨b,1,none⟩ rfl _;obtain⟨_,v0,hb0,_,_⟩:=hp;have c0:w.cell? ⟨b,0,none⟩=some p:=by simp[World.cell?,hb0]
  have c1:w.cell? ⟨b,1,none⟩=some v0:=by simp[World.cell?,hb0]
  have z0:w.frozen? ⟨b,0,none⟩=false:=by simp[World.frozen?,hb0]
  have z1:w.frozen? ⟨b,1,none⟩=false:=by simp[World.frozen?,hb0]
  have d1:(w.setCell ⟨b,0,none⟩ (.pointer none)).cell? ⟨b,1,none⟩=some v:=by simp[World.cell?,hb]
  have y1:(w.setCell ⟨b,0,none⟩ (.pointer none)).frozen? ⟨b,1,none⟩=false:=by simp[World.frozen?,hb]
  clear hb hb0 hown Dj
  go_enter Tryz.func30,Tryz.ntmps30
  go_wp2
  go_end0
  exact⟨rfl,Or.inl q1,q2,fun k o q n c=>q3 k o q (fun e=>n (Option.some.inj e)) c⟩
 rcases h with h|h
 ·exact key _ h
 ·exact key _ h
def Xj(k:Nat)(e:En):By:=(if k=0 then [] else [32])++(Lib.itoa e.i++([32]++txT e.a k))
def Ih(C:List En):Nat->By
 |0=>[]
 |x+1=>Ih C x++Xj x (C[x]?.getD default)
def Hy(eq:Bool):By:=if eq then [40,101,113,117,97,108,32,40] else [40,116,101,114,109,32,40]
def Sb(x:XG):List Tm:=if x.eq then [x.a,x.u,x.b,x.v,x.h] else [x.u,x.a]
def Ie(l:List Tm)(n:Nat):By:=(l.map fun t=>32::txT t n).flatten
def txR(x:XG):By:=Hy x.eq++Ih x.ctx x.ctx.length++([41,32]++Lib.itoa x.i)++Ie (Sb x) x.ctx.length++[41,10]
structure XG.sm(x:XG):Prop where
 c:x.ctx.length<=100/\∀e∈x.ctx,Du e.a<=300/\Fx e.a<=1000
 t:∀t∈[x.a,x.u,x.b,x.v,x.h],Du t<=300/\Fx t<=1000
def r7{C:List En}(h:Lq C=true){x:Nat}(hx:x<C.length):lev (C[x]?.getD default).i=true/\Cz (C[x]?.getD default).a 1=true/\Da (C[x]?.getD default).a<=(x:Int):=by
 have h1:Lt x (C[x]?.getD default)=true:=by
  cases hq:Lt x (C[x]?.getD default)
  ·have:=Wz (d:=default) (f:=Lt) (k:=0) (i:=x) hx (by rw[q_jg];exact hq);unfold Lq at h;rw[h] at this;cases this
  ·rfl
 unfold Lt at h1;rw[q_jl,q_jl] at h1;exact⟨h1.1,h1.2.1,q_ku h1.2.2⟩
def Zo{i:Int}(h:lev i=true):0<=i/\i<=1000:=by
 unfold lev at h;rw[q_jl] at h;exact⟨q_ku h.1,q_ku h.2⟩
def Zk{t:Tm}{n:Nat}{w:Int}(h:Cz t w=true)(h2:inB n t=true):Da t<=(n:Int):=by
 have:=q_ku h2
 rwa [show Gy t=Da t by unfold Gy;rw[if_pos (Qk h)]] at this
def Amd{x:XG}(h:Mg x=true):Lq x.ctx=true/\lev x.i=true/\∀t∈Sb x,∃w:Int,Cz t w=true/\Da t<=(x.ctx.length:Int):=by
 unfold Mg at h;simp only[q_jl] at h;obtain⟨h1,h2,⟨a1,a2⟩,⟨u1,u2⟩,h3⟩:=h;refine⟨h1,h2,fun t ht=>?_⟩;have ka:∃w:Int,Cz x.a w=true/\Da x.a<=(x.ctx.length:Int):=⟨1,a1,Zk (w:=1) a1 a2⟩
 have ku:∃w:Int,Cz x.u w=true/\Da x.u<=(x.ctx.length:Int):=⟨1,u1,Zk (w:=1) u1 u2⟩
 unfold Sb at ht;cases hq:x.eq
 ·rw[hq,if_neg (by decide)] at ht;simp only[q_kb,q_kc,or_false] at ht;rcases ht with rfl|rfl
  ·exact ku
  ·exact ka
 ·rw[hq,if_pos rfl] at ht h3;simp only[q_jl] at h3;obtain⟨⟨b1,b2⟩,⟨v1,v2⟩,g1,g2⟩:=h3;simp only[q_kb,q_kc,or_false] at ht;rcases ht with rfl|rfl|rfl|rfl|rfl
  ·exact ka
  ·exact ku
  ·exact⟨1,b1,Zk (w:=1) b1 b2⟩
  ·exact⟨1,v1,Zk (w:=1) v1 v2⟩
  ·exact⟨2,g1,Zk (w:=2) g1 g2⟩
def Aba{x:XG}{t:Tm}(h:t∈Sb x):t∈[x.a,x.u,x.b,x.v,x.h]:=by
 unfold Sb at h;split at h<;>simp only[q_kb,q_kc,or_false] at h |-<;>rcases h with rfl|h<;>simp_all
def Ab0{t:Tm}{w:Int}{d:Nat}(h:Cz t w=true)(hs:Du t<=300/\Fx t<=1000)(hd:d<=1000):(txT t d).length<=200000:=by
 have:=Af8 t w d h (by omega);omega
def Asx{k:Nat}{e:En}(h:Cz e.a 1=true)(hi:lev e.i=true)(hs:Du e.a<=300/\Fx e.a<=1000)(hk:k<=1000):(Xj k e).length<=300000:=by
 have h1:=Ab0 h hs hk;have hb:=Zo hi;have h2:=Mc e.i (by omega) (by omega);have h3:(if k=0 then ([]:By) else [32]).length<=1:=by split<;>simp
 unfold Xj;simp only[q_jr,q_jk,List.length_nil] at h3 |-;omega
def Ah1{x:XG}(hs:x.sm)(h:Lq x.ctx=true):∀k,k<=x.ctx.length->(Ih x.ctx k).length<=300000*k:=by
 intro k
 induction k with
 |zero=>intro _;exact q_ja _
 |succ k ih=>
  intro hk;have h1:=ih (by omega);obtain⟨e1,e2,_⟩:=r7 h (show k<x.ctx.length by omega);have:=hs.c.1;have h2:=Asx (k:=k) e2 e1 (hs.c.2 _ (Fg (d:=default) (show k<x.ctx.length by omega))) (by omega);rw[Ih,q_jr];omega
abbrev ptQ(R:By):AE->St->Prop:=bk 0 (sq pwC a12_39 (rt [.t 2] (.str (bs R))))
def ptS(r:List SV)(S:By)(x:Nat):St:=⟨(.J::.ref 0 0 0 0::.J::.str (bs S)::.int .i64 x::Fb (Fb (Fa (jk8 (jk4 (.J::[])))))),[⟨true,28,[r],0,0,true⟩]⟩
def A0v{x:XG}(hx:x.ok)(hs:x.sm)(hr:Mg x=true){st:St}(h0:Wk st (ptS (xgV x) (Hy x.eq) 0)):vc pwC (.loop a12_24) (ptQ (txR x)) st:=by
 obtain⟨hC,hi,hO⟩:=Amd hr;obtain⟨hl,f0,f1,f2,fa,fu,fb,fv,fh⟩:=Un x;have hn:(x.ctx.map En.v).length=x.ctx.length:=by simp
 refine Kf (fun y=>ptS (xgV x) (Hy x.eq++Ih x.ctx y) y) x.ctx.length (fun y hy=>?_) (by rw[Ih,q_k];exact h0);have hcl:=Ah1 hs hC y hy;have hsc:=hs.c.1;have Yk:(Hy x.eq).length<=8:=by unfold Hy;split<;>decide
 by_cases Aq:y<x.ctx.length
 ·obtain⟨e1,e2,e3⟩:=r7 hC Aq;have hm:=Fg (d:=default) Aq;obtain⟨hok,hhg⟩:=hx.c.2 _ hm;have Lv:=hs.c.2 _ hm;have hb:=Zo e1;have Cv:=t8 x.ctx y Aq;have hT:Hy x.eq++Ih x.ctx (y+1)=Hy x.eq++Ih x.ctx y++Xj y (x.ctx[y]?.getD default):=by rw[Ih,q_ju]
  have c1:=Qy (n:=(x.ctx[y]?.getD default).i.toNat) (by omega);rw[Int.toNat_of_nonneg hb.1] at c1;have c2:=Ahn hok.a e2 e3 (by omega) hhg (by omega);have htl:=Ab0 e2 Lv (show y<=1000 by omega);have hil:=Mc (x.ctx[y]?.getD default).i (by omega) (by omega);have hz:=Bz (x.ctx[y]?.getD default).a;unfold Xj at hT;generalize (x.ctx[y]?.getD default)=e at *
  generalize txT e.a y=T at *
  generalize Lib.itoa e.i=I at *
  have hSl:(Hy x.eq++Ih x.ctx y).length<=30000100:=by rw[q_jr];omega
  generalize Hy x.eq++Ih x.ctx y=S at *
  have g0:(0:Int)<=(y:Int):=by omega
  have g1:(y:Int)<(x.ctx.length:Int):=by omega
  have g2:IntKind.i64.wrap ((y:Int)+1)=((y+1:Nat):Int):=by rw[w64 (by unfold fit;omega)];omega
  generalize xgV x=r at *
  generalize x.ctx.map En.v=rows at *
  unfold ptS
  by_cases hy0:y=0
  ·rw[if_pos hy0] at hT;have g3:¬((0:Int)<(y:Int)):=by omega
   repeat' first
   |simp (disch:=omega) only[go_sem,seval,hl,f0,hn,Cv,hz,g0,g1,g2,g3,forall_const,if_pos]
   |refine Ae c1 ?_
   |refine Ae c2 ?_
   |intro _
   refine⟨Aq,?_⟩;rw[show Hy x.eq++Ih x.ctx (y+1)=S++I++[32]++T by rw[hT];simp];exact Cr (by simp[Cb])
  ·rw[if_neg hy0] at hT;have g3:(0:Int)<(y:Int):=by omega
   repeat' first
   |simp (disch:=omega) only[go_sem,seval,hl,f0,hn,Cv,hz,g0,g1,g2,g3,forall_const,if_pos]
   |refine Ae c1 ?_
   |refine Ae c2 ?_
   |intro _
   refine⟨Aq,?_⟩;rw[show Hy x.eq++Ih x.ctx (y+1)=S++[32]++I++[32]++T by rw[hT];simp];exact Cr (by simp[Cb])
 ·obtain rfl:y=x.ctx.length:=by omega
  have hb:=Zo hi;have c1:=Qy (n:=x.i.toNat) (by omega);rw[Int.toNat_of_nonneg hb.1] at c1;have hil:=Mc x.i (by omega) (by omega);have hok:∀t∈[x.a,x.u,x.b,x.v,x.h],TOk t/\Du t<=1000:=fun t ht=>by
   simp only[q_kb,q_kc,or_false] at ht;rcases ht with rfl|rfl|rfl|rfl|rfl
   ·exact hx.a
   ·exact hx.u
   ·exact hx.b
   ·exact hx.v
   ·exact hx.h
  have hW:∀t∈Sb x,Con 36 [.agg true (tv t),.int .i64 x.ctx.length] (.str (bs (txT t x.ctx.length)))/\(txT t x.ctx.length).length<=200000:=fun t ht=>by
   obtain⟨w,h1,h2⟩:=hO t ht;have h3:=hok t (Aba ht);have h4:=hs.t t (Aba ht);exact⟨Ahn h3.1 h1 h2 (by omega) h3.2 (by omega),Ab0 h1 h4 (by omega)⟩
  have g1:¬((x.ctx.length:Int)<(x.ctx.length:Int)):=by omega
  have hSl:(Hy x.eq++Ih x.ctx x.ctx.length).length<=30000100:=by rw[q_jr];omega
  have ta:=Bz x.a;have tu:=Bz x.u;have tb:=Bz x.b;have tvv:=Bz x.v;have th:=Bz x.h;unfold txR;generalize Hy x.eq++Ih x.ctx x.ctx.length=S at *
  generalize Lib.itoa x.i=I at *
  clear hcl hy hok hO hx hs hr h0;unfold Sb at hW |-;cases hq:x.eq
  ·rw[hq,if_neg (by decide)] at hW;rw[if_neg (by decide)];obtain⟨wu,lu⟩:=hW x.u (by simp);obtain⟨wa,la⟩:=hW x.a (by simp);rw[hq] at f1;rw[show S++([41,32]++I)++Ie [x.u,x.a] x.ctx.length++[41,10]=S++[41,32]++I++[32]++txT x.u x.ctx.length++[32]++txT x.a x.ctx.length++[41,10] by simp[Ie]];clear hW hq;generalize txT x.u x.ctx.length=Tu at *
   generalize txT x.a x.ctx.length=Ta at *
   generalize xgV x=r at *
   generalize x.ctx.map En.v=rows at *
   unfold ptS
   repeat' first
   |simp (disch:=omega) only[go_sem,seval,hl,f0,f1,f2,fa,fu,hn,ta,tu,g1,forall_const,if_pos]
   |refine Ae c1 ?_
   |refine Ae wu ?_
   |refine Ae wa ?_
   |intro _
  ·rw[hq,if_pos rfl] at hW;rw[if_pos rfl];obtain⟨wu,lu⟩:=hW x.u (by simp);obtain⟨wa,la⟩:=hW x.a (by simp);obtain⟨wb,lb⟩:=hW x.b (by simp);obtain⟨wv,lv⟩:=hW x.v (by simp);obtain⟨wh,lh⟩:=hW x.h (by simp);rw[hq] at f1;rw[show S++([41,32]++I)++Ie [x.a,x.u,x.b,x.v,x.h] x.ctx.length++[41,10]=S++[41,32]++I++[32]++txT x.a x.ctx.length++[32]++txT x.u x.ctx.length++[32]++txT x.b x.ctx.length++[32]++txT x.v x.ctx.length++[32]++txT x.h x.ctx.length++[41,10] by simp[Ie]];clear hW hq;generalize txT x.u x.ctx.length=Tu at *
   generalize txT x.a x.ctx.length=Ta at *
   generalize txT x.b x.ctx.length=Tb at *
   generalize txT x.v x.ctx.length=Tv at *
   generalize txT x.h x.ctx.length=Th at *
   generalize xgV x=r at *
   generalize x.ctx.map En.v=rows at *
   unfold ptS
   repeat' first
   |simp (disch:=omega) only[go_sem,seval,hl,f0,f1,f2,fa,fu,fb,fv,fh,hn,ta,tu,tb,tvv,th,g1,forall_const,if_pos]
   |refine Ae c1 ?_
   |refine Ae wu ?_
   |refine Ae wa ?_
   |refine Ae wb ?_
   |refine Ae wv ?_
   |refine Ae wh ?_
   |intro _
def Aqp{x:XG}(hx:x.ok)(hs:x.sm):Con 12 [.agg true (xgV x)] (.str (bs (if Mg x then txR x else []))):=by
 have c0:=Aho hx;obtain⟨hl,f0,f1,f2,fa,fu,fb,fv,fh⟩:=Un x;refine Bt mixed Tryz.func12 tr12 ?_;cases hr:Mg x
 ·rw[hr] at c0;clear fa fu fb fv fh;generalize xgV x=r at *
  repeat' first
  |simp only[go_sem,seval,hl]
  |refine Ae c0 ?_
 ·rw[hr] at c0;have L:=fun {st:St}=>A0v hx hs hr (st:=st)
  rw[if_pos rfl];generalize txR x=R at *
  clear fa fu fb fv fh hr hx hs;cases hq:x.eq
  ·rw[hq] at f1 L;unfold Hy ptS at L;rw[if_neg (by decide)] at L;generalize xgV x=r at *
   repeat' first
   |simp only[go_sem,seval,hl,f1]
   |refine Ae c0 ?_
   |exact L (Cr (by simp[Cb]))
  ·rw[hq] at f1 L;unfold Hy ptS at L;rw[if_pos rfl] at L;generalize xgV x=r at *
   repeat' first
   |simp only[go_sem,seval,hl,f1]
   |refine Ae c0 ?_
   |exact L (Cr (by simp[Cb]))
def SG.mem{P:World->Prop}{B b:Nat}{ks ks':List (Nat×Obj)}{l:List UInt8}{w W:World}(h:SG P B b ks l w W)(hs:∀p∈ks',p∈ks):SG P B b ks' l w W:=⟨h.bd,h.p,h.hB,fun p hp=>h.t p (hs p hp),h.be,h.ot⟩
def tmC(t:Tm)(A:Option Addr)(n:Nat):List Value:=[.int .i64 t.k,.int .i64 t.i,.int .i64 t.j,.int .i64 t.n,.slice A t.kids.length n]
def Als(l r:List Tm)(n:Nat):Ie (l++r) n=Ie l n++Ie r n:=by unfold Ie;rw[q_kt,List.flatten_append]
def Alt(t:Tm)(n:Nat):Ie [t] n=32::txT t n:=by simp[Ie]
def A3o{m:Mem}{cs:Array Value}(Vg:cs.size=28){AC:Option Addr}{nC capC:Nat}{q:Bool}{I:Int}{pI:List UInt8}
  (c0:cs[0]?=some (.slice AC nC capC)) (c1:cs[1]?=some (.bool q)) (c2:cs[2]?=some (.int .i64 I))
  {ta tu tx tw th:Tm} (ca:Nh m cs 3 ta) (cu:Nh m cs 8 tu) (cb:Nh m cs 13 tx) (cv:Nh m cs 18 tw) (ch:Nh m cs 23 th)
  {blk off:Nat} {ek ei ej en el:Nat->Int} {ea:Nat->Option Addr} {es ec:Nat->Nat} {pt wx part:Nat->List UInt8}
  (hA:0<nC->AC=some ⟨blk,off,none⟩) (hnC:nC<=1000)
  (hE:∀x,x<nC->m blk (off+x*6)=some (.int .i64 (ek x))/\m blk (off+x*6+1)=some (.int .i64 (ei x))/\m blk (off+x*6+2)=some (.int .i64 (ej x))/\m blk (off+x*6+3)=some (.int .i64 (en x))/\m blk (off+x*6+4)=some (.slice (ea x) (es x) (ec x))/\m blk (off+x*6+5)=some (.int .i64 (el x)))
  (Adh:∀x,x<nC->∀B,Hw (MM m B) 32 [.int .i64 (el x)] (.string ⟨(pt x).toArray⟩))
  (hWr:∀x,x<nC->∀B,Hw (MM m B) 33 [.agg #[.int .i64 (ek x),.int .i64 (ei x),.int .i64 (ej x),.int .i64 (en x),.slice (ea x) (es x) (ec x)],.int .i64 x] (.string ⟨(wx x).toArray⟩))
  (p0:part 0=[]) (p1:∀x,part (x+1)=part x++((if x=0 then [] else [32])++(pt x++([32]++wx x)))) (Fo:∀x,x<nC->(part (x+1)).length<=(part nC).length) (hpn:(part nC).length<=1000000000)
  (hPI:∀B,Hw (MM m B) 32 [.int .i64 I] (.string ⟨pI.toArray⟩)) (hpI:pI.length<=100)
  {ol:List Tm} (Qc:ol=if q then [ta,tu,tx,tw,th] else [tu,ta]) (Sq:∀t∈ol,(txT t nC).length<=1000000/\∀A n,Rep m (.slice A t.kids.length n) (.dsl 5 (t.kids.map tv))->∀B,Hw (MM m B) 33 [.agg #[.int .i64 t.k,.int .i64 t.i,.int .i64 t.j,.int .i64 t.n,.slice A t.kids.length n],.int .i64 nC] (.string ⟨(txT t nC).toArray⟩))
  {w:World} (hm:Fk m w) (hR:∀B,Hw (MM m B) 8 [.agg cs] (.bool true)) :
  Calls Tryz.prog 11 #[.agg cs] w fun e w'=>e=.returned (.string ⟨(Hy q++part nC++([41,32]++pI)++Ie ol nC++[41,10]).toArray⟩)/\Below w.heap.size w w':=by
 have holH:=Lib.hid Qc;clear Qc;have Ad2:(Tryz.prog.info? 30).map (·.size)=some cs.size:=by rw[Vg];kernel_rfl
 have hw:=MM.here hm;have hb0:Below w.heap.size w (w.alloc (.cells cs 30)):=(Below.refl _ w).alloc (q_ja _) _;have h0:(w.alloc (.cells cs 30)).heap[w.heap.size]?=some (.cells cs 30 (0,0)):=Array.getElem?_push_size;have hw0:MM m w.heap.size _:=Fv hw hb0;have Ji:w.heap.size<=(w.alloc (.cells cs 30)).heap.size:=hb0.size;have Cf:(w.alloc (.cells cs 30)).heap.size=w.heap.size+1:=by simp
 have hszH:=Lib.hid Cf;clear Cf;have r1:=hR _ _ hw0;clear hR;obtain⟨Aa,na,ra,ca0,ca1,ca2,ca3,ca4⟩:=ca;obtain⟨Au,nu,ru,cu0,cu1,cu2,cu3,cu4⟩:=cu
 go_enter Tryz.func11,Tryz.ntmps11
 iterate 16 (first|go_values|go_skip|go_guarded|go_step)
 refine wp_load_row 30 _ rfl w.heap.size rfl 30 cs (0,0) _ h0 Tryz.underlying30 rfl Ad2 ?_
 go_wp2_with (go_at_call 8;refine r1.mono ?_)
 generalize w.alloc (.cells cs 30)=w0 at *
 generalize Nz:w.heap.size=tb at *
 clear r1
 first|(rintro e W1 rfl k1)|(rintro e W1 ⟨rfl,k1⟩)
 have k1:Below w0.heap.size w0 W1:=by first|exact k1|(rw[hszH.out];exact k1)
 have h1:=Pb h0 k1;have hw1:MM m tb W1:=Fv hw0 (Hl k1 Ji);have b1:=hb0.trans (Hl k1 Ji);have Nn:=q_ko Ji k1.size;have f2:=Lib.IsBuilderF.of (Lib.fresh_isBuilder 53 5 W1);have k2:Below W1.heap.size W1 (W1.alloc (.cells #[.pointer none,.slice none 0 0] 53)):=(Below.refl _ W1).alloc (q_ja _) _;have s2:SG (MM m W1.heap.size) W1.heap.size W1.heap.size [(tb,.cells cs 30 (0,0))] [] W1 (W1.alloc (.cells #[.pointer none,.slice none 0 0] 53)):=
  ⟨f2,Fv (MM.here hw1.ok) k2,k2.size,fun p hp=>by
   simp only[q_ki] at hp;subst hp;exact⟨Pb h1 k2,by have:=(Array.getElem?_eq_some_iff.1 h1).1;dsimp only;omega,fun c fz e=>by cases e⟩,k2,.below k2⟩
 have q2:([]:List UInt8).length+(ByteArray.mk #[40,116,101,114,109,32,40]).size<=140737488355328:=by show 0+7<=_;omega
 go_wp2_with (go_at_call 29;refine (Ml s2.bd q2 s2.hB).mono ?_)
 generalize W1.alloc (.cells #[.pointer none,.slice none 0 0] 53)=Wb at *
 generalize Rg:W1.heap.size=b at *
 first|(rintro e W3 rfl b3 k3 o3)|(rintro e W3 ⟨rfl,b3,k3,o3⟩)
 have s3:=s2.put Fv b3 k3 o3;clear b3 k3 o3 s2 q2;obtain⟨Ab,nb,rb,cb0,cb1,cb2,cb3,cb4⟩:=cb;obtain⟨Av,nv,rv,cv0,cv1,cv2,cv3,cv4⟩:=cv;obtain⟨Ah,nh,rh,ch0,ch1,ch2,ch3,ch4⟩:=ch;have mt:(tb,Obj.cells cs 30 (0,0))∈[(tb,Obj.cells cs 30 (0,0))]:=q_ki.2 rfl;have d3:=(s3.cell (p:=tb) mt 3).trans ca0;have d4:=(s3.cell (p:=tb) mt 4).trans ca1;have d5:=(s3.cell (p:=tb) mt 5).trans ca2;have d6:=(s3.cell (p:=tb) mt 6).trans ca3;have d7:=(s3.cell (p:=tb) mt 7).trans ca4;have d8:=(s3.cell (p:=tb) mt 8).trans cu0;have d9:=(s3.cell (p:=tb) mt 9).trans cu1;have d10:=(s3.cell (p:=tb) mt 10).trans cu2;have d11:=(s3.cell (p:=tb) mt 11).trans cu3;have d12:=(s3.cell (p:=tb) mt 12).trans cu4;have s4:=s3.alloc Fv (cs:=#[.int .i64 tu.k,.int .i64 tu.i,.int .i64 tu.j,.int .i64 tu.n,.slice Au tu.kids.length nu,.int .i64 ta.k,.int .i64 ta.i,.int .i64 ta.j,.int .i64 ta.n,.slice Aa ta.kids.length na]) (T:=25) (by decide);have e1:=(s4.cell (p:=tb) (List.mem_cons_of_mem _ mt) 1).trans c1
 go_upto_if 19 with fail
 clear d3 d4 d5 d6 d7 d8 d9 d10 d11 d12 s3 e1;generalize W3.alloc (.cells #[.int .i64 tu.k,.int .i64 tu.i,.int .i64 tu.j,.int .i64 tu.n,.slice Au tu.kids.length nu,.int .i64 ta.k,.int .i64 ta.i,.int .i64 ta.j,.int .i64 ta.n,.slice Aa ta.kids.length na] 25)=W4 at *
 generalize W3.heap.size=lb at *
 go_cut [4] from 19 to 32 (fun s wx=>∃lb,s=.slice (some ⟨lb,0,none⟩) (if q then 5 else 2) (if q then 5 else 2)/\SG (MM m b) b b [(lb,.cells (if q then tmC ta Aa na++tmC tu Au nu++tmC tx Ab nb++tmC tw Av nv++tmC th Ah nh else tmC tu Au nu++tmC ta Aa na).toArray 25 (0,0)),(tb,.cells cs 30 (0,0))] (Hy q) W1 wx)
 case first=>
  cases q with
  |false=>
   go_wp2
   go_meet
   case rel=>exact⟨lb,rfl,s4⟩
  |true=>
   have s5:=s4.mem (ks':=[(tb,.cells cs 30 (0,0))]) (fun p hp=>List.mem_cons_of_mem _ hp);clear s4
   go_wp2_with (go_at_call 30;refine (Aos s5.bd).mono ?_)
   first|(rintro e W5 rfl b5 k5 o5)|(rintro e W5 ⟨rfl,b5,k5,o5⟩)
   have s6:=s5.put Fv b5 k5 o5;have q6:([]:List UInt8).length+(ByteArray.mk #[40,101,113,117,97,108,32,40]).size<=140737488355328:=by show 0+8<=_;omega
   go_wp2_with (go_at_call 29;refine (Ml s6.bd q6 s6.hB).mono ?_)
   first|(rintro e W6 rfl b6 k6 o6)|(rintro e W6 ⟨rfl,b6,k6,o6⟩)
   have s7:=s6.put Fv b6 k6 o6;clear s5 b5 k5 o5 s6 b6 k6 o6 q6;have g3:=(s7.cell (p:=tb) mt 3).trans ca0;have g4:=(s7.cell (p:=tb) mt 4).trans ca1;have g5:=(s7.cell (p:=tb) mt 5).trans ca2;have g6:=(s7.cell (p:=tb) mt 6).trans ca3;have g7:=(s7.cell (p:=tb) mt 7).trans ca4;have g8:=(s7.cell (p:=tb) mt 8).trans cu0;have g9:=(s7.cell (p:=tb) mt 9).trans cu1;have g10:=(s7.cell (p:=tb) mt 10).trans cu2;have g11:=(s7.cell (p:=tb) mt 11).trans cu3;have g12:=(s7.cell (p:=tb) mt 12).trans cu4;have g13:=(s7.cell (p:=tb) mt 13).trans cb0;have g14:=(s7.cell (p:=tb) mt 14).trans cb1;have g15:=(s7.cell (p:=tb) mt 15).trans cb2;have g16:=(s7.cell (p:=tb) mt 16).trans cb3;have g17:=(s7.cell (p:=tb) mt 17).trans cb4;have g18:=(s7.cell (p:=tb) mt 18).trans cv0;have g19:=(s7.cell (p:=tb) mt 19).trans cv1;have g20:=(s7.cell (p:=tb) mt 20).trans cv2;have g21:=(s7.cell (p:=tb) mt 21).trans cv3;have g22:=(s7.cell (p:=tb) mt 22).trans cv4;have g23:=(s7.cell (p:=tb) mt 23).trans ch0;have g24:=(s7.cell (p:=tb) mt 24).trans ch1;have g25:=(s7.cell (p:=tb) mt 25).trans ch2;have g26:=(s7.cell (p:=tb) mt 26).trans ch3;have g27:=(s7.cell (p:=tb) mt 27).trans ch4;have s8:=s7.alloc Fv (cs:=#[.int .i64 ta.k,.int .i64 ta.i,.int .i64 ta.j,.int .i64 ta.n,.slice Aa ta.kids.length na,.int .i64 tu.k,.int .i64 tu.i,.int .i64 tu.j,.int .i64 tu.n,.slice Au tu.kids.length nu,.int .i64 tx.k,.int .i64 tx.i,.int .i64 tx.j,.int .i64 tx.n,.slice Ab tx.kids.length nb,.int .i64 tw.k,.int .i64 tw.i,.int .i64 tw.j,.int .i64 tw.n,.slice Av tw.kids.length nv,.int .i64 th.k,.int .i64 th.i,.int .i64 th.j,.int .i64 th.n,.slice Ah th.kids.length nh]) (T:=25) (by decide)
   go_wp2
   go_meet
   case rel=>exact⟨_,rfl,s8⟩
 case rest=>
  obtain⟨lo,rfl,s5⟩:=hcut;clear s4 ca0 ca1 ca2 ca3 ca4 cu0 cu1 cu2 cu3 cu4 cb0 cb1 cb2 cb3 cb4 cv0 cv1 cv2 cv3 cv4 ch0 ch1 ch2 ch3 ch4;obtain⟨hd,Yk⟩:∃hd,hd=Hy q:=⟨_,rfl⟩
  rw[<-Yk] at s5;have hhl:hd.length<=8:=by rw[Yk];cases q<;>decide
  obtain⟨os,Vt⟩:∃os:List (Tm×Option Addr×Nat),os=if q then [(ta,Aa,na),(tu,Au,nu),(tx,Ab,nb),(tw,Av,nv),(th,Ah,nh)] else [(tu,Au,nu),(ta,Aa,na)]:=⟨_,rfl⟩
  have Hp:(if q then tmC ta Aa na++tmC tu Au nu++tmC tx Ab nb++tmC tw Av nv++tmC th Ah nh else tmC tu Au nu++tmC ta Aa na)=(os.map fun o=>tmC o.1 o.2.1 o.2.2).flatten:=by rw[Vt];cases q<;>rfl
  have hom:os.map (·.1)=ol:=by rw[Vt,holH.out];cases q<;>rfl
  have hrp:∀o∈os,Rep m (.slice o.2.1 o.1.kids.length o.2.2) (.dsl 5 (o.1.kids.map tv)):=fun o ho=>by
   rw[Vt] at ho;cases q with
   |true=>
    simp only[if_true,q_kb,q_kc,or_false] at ho;rcases ho with rfl|rfl|rfl|rfl|rfl
    ·exact ra
    ·exact ru
    ·exact rb
    ·exact rv
    ·exact rh
   |false=>
    simp only[q_kx,if_false,q_kb,q_kc,or_false] at ho;rcases ho with rfl|rfl
    ·exact ru
    ·exact ra
  rw[Hp] at s5;obtain⟨nO,Yp⟩:∃nO:Nat,nO=if q then 5 else 2:=⟨_,rfl⟩
  have hnl:os.length=nO:=by rw[Vt,Yp];cases q<;>rfl
  have hnO5:nO<=5:=by rw[Yp];split<;>omega
  rw[<-Yp];rw[<-hom] at Sq;have Sq:∀o∈os,(txT o.1 nC).length<=1000000/\∀B,Hw (MM m B) 33 [.agg #[.int .i64 o.1.k,.int .i64 o.1.i,.int .i64 o.1.j,.int .i64 o.1.n,.slice o.2.1 o.1.kids.length o.2.2],.int .i64 nC] (.string ⟨(txT o.1 nC).toArray⟩):=fun o ho=>by
   obtain⟨h1,h2⟩:=Sq o.1 (q_kz.2 ⟨o,ho,rfl⟩);exact⟨h1,h2 _ _ (hrp o ho)⟩
  have y6:=fun (y j:Nat) (hj:j<5)=>Pr (sz:=5) (l:=os.map fun o=>tmC o.1 o.2.1 o.2.2) (fun r hr=>by obtain⟨o,_,rfl⟩:=q_kz.1 hr;rfl) y j hj
  clear hrp Hp ra ru rb rv rh;have hosH:=Lib.hid Vt;have homH:=Lib.hid hom;have hnlH:=Lib.hid hnl;clear Vt hom hnl;generalize (os.map fun o=>tmC o.1 o.2.1 o.2.2).flatten=Lf at *
  have hqH:=Lib.hid Yp;have hhH:=Lib.hid Yk;clear Yp Yk;have mt2:(tb,Obj.cells cs 30 (0,0))∈[(lo,Obj.cells Lf.toArray 25 (0,0)),(tb,Obj.cells cs 30 (0,0))]:=List.mem_cons_of_mem _ mt;have d0:=(s5.cell (p:=tb) mt2 0).trans c0
  go_wp2_with fail
  clear d0
  go_loopw [36] (fun y wr=>∃x:Nat,x<=nC/\y=.int .i64 x/\SG (MM m b) b b [(lo,.cells Lf.toArray 25 (0,0)),(tb,.cells cs 30 (0,0))] (hd++part x) W1 wr) (fun y _=>nC-(intOf y).toNat)
  case atStart=>exact⟨0,Nat.zero_le _,rfl,by rw[p0,q_k];exact s5⟩
  case round=>
   obtain⟨x,hx,rfl,hs⟩:=hrel
   by_cases Aq:x<nC
   ·obtain rfl:=hA (by omega);obtain⟨m0,m1,m2,m3,m4,m5⟩:=hE x Aq;have hc:=hs.p.ok.1;have g0:=hc _ _ _ m0;have g1:=hc _ _ _ m1;have g2:=hc _ _ _ m2;have g3:=hc _ _ _ m3;have g4:=hc _ _ _ m4;have g5:=hc _ _ _ m5;have Rs:=p1 x;have hlx:=Fo x Aq;rw[Rs] at hlx;have tP:=Adh x Aq b;have tW:=hWr x Aq b;clear hE p1 Fo s5 p0 Adh hWr hc m0 m1 m2 m3 m4 m5 hA;have pH:=Lib.hid Rs;clear Rs;have ha:=hs.alloc Fv (cs:=#[.int .i64 (ek x),.int .i64 (ei x),.int .i64 (ej x),.int .i64 (en x),.slice (ea x) (es x) (ec x),.int .i64 (el x)]) (T:=59) (by decide)
    go_upto_if 42 with fail
    generalize wr.alloc (.cells #[.int .i64 (ek x),.int .i64 (ei x),.int .i64 (ej x),.int .i64 (en x),.slice (ea x) (es x) (ec x),.int .i64 (el x)] 59)=wa at *
    generalize wr.heap.size=kb at *
    clear g0 g1 g2 g3 g4 g5;obtain⟨G,hG⟩:∃G:List UInt8,G=(if x=0 then [] else [32]):=⟨_,rfl⟩
    rw[<-hG] at hlx;simp only[q_jr,q_jk,List.length_nil] at hlx;have Pu:x=0->G=[]:=fun h=>by rw[hG,if_pos h]
    have Pv:x≠0->G=[32]:=fun h=>by rw[hG,if_neg h]
    have hGH:=Lib.hid hG;clear hG
    go_cut [] from 42 to 43 (fun wx=>SG (MM m b) b b [(kb,.cells #[.int .i64 (ek x),.int .i64 (ei x),.int .i64 (ej x),.int .i64 (en x),.slice (ea x) (es x) (ec x),.int .i64 (el x)] 59 (0,0)),(lo,.cells Lf.toArray 25 (0,0)),(tb,.cells cs 30 (0,0))] (hd++part x++G) W1 wx)
    case first=>
     by_cases hx0:0<x
     ·have hg:=Pv (by omega);clear Pu Pv;subst hg;have q2:(hd++part x).length+1<=140737488355328:=by rw[q_jr];omega
      go_wp2_with (go_at_call 31;refine (Acf (c:=32) ha.bd q2 ha.hB).mono ?_)
      first|(rintro e W5 rfl b5 k5 o5)|(rintro e W5 ⟨rfl,b5,k5,o5⟩)
      have s6:=ha.put Fv b5 k5 o5
      go_wp2
      go_meet
      case rel=>exact s6
     ·have hg:=Pu (by omega);clear Pu Pv;subst hg
      go_wp2
      go_meet
      case rel=>rw[q_k];exact ha
    case rest=>
     clear ha Pu Pv;have Aj5:∀V,SG (MM m b) b b [(kb,.cells #[.int .i64 (ek x),.int .i64 (ei x),.int .i64 (ej x),.int .i64 (en x),.slice (ea x) (es x) (ec x),.int .i64 (el x)] 59 (0,0)),(lo,.cells Lf.toArray 25 (0,0)),(tb,.cells cs 30 (0,0))] (hd++part x++G) W1 V ->
       Calls Tryz.prog 32 #[.int .i64 (el x)] V fun e w'=>e=.returned (.string ⟨(pt x).toArray⟩)/\SG (MM m b) b b [(kb,.cells #[.int .i64 (ek x),.int .i64 (ei x),.int .i64 (ej x),.int .i64 (en x),.slice (ea x) (es x) (ec x),.int .i64 (el x)] 59 (0,0)),(lo,.cells Lf.toArray 25 (0,0)),(tb,.cells cs 30 (0,0))] (hd++part x++G) W1 w':=
      fun V s=>(tP V s.p).mono (fun e w' h=>⟨h.1,s.keep Fv h.2⟩)
     have hwr:∀V,SG (MM m b) b b [(kb,.cells #[.int .i64 (ek x),.int .i64 (ei x),.int .i64 (ej x),.int .i64 (en x),.slice (ea x) (es x) (ec x),.int .i64 (el x)] 59 (0,0)),(lo,.cells Lf.toArray 25 (0,0)),(tb,.cells cs 30 (0,0))] (hd++part x++G) W1 V ->
       Calls Tryz.prog 33 #[.agg #[.int .i64 (ek x),.int .i64 (ei x),.int .i64 (ej x),.int .i64 (en x),.slice (ea x) (es x) (ec x)],.int .i64 x] V fun e w'=>e=.returned (.string ⟨(wx x).toArray⟩)/\SG (MM m b) b b [(kb,.cells #[.int .i64 (ek x),.int .i64 (ei x),.int .i64 (ej x),.int .i64 (en x),.slice (ea x) (es x) (ec x),.int .i64 (el x)] 59 (0,0)),(lo,.cells Lf.toArray 25 (0,0)),(tb,.cells cs 30 (0,0))] (hd++part x++G) W1 w':=
      fun V s=>(tW V s.p).mono (fun e w' h=>⟨h.1,s.keep Fv h.2⟩)
     have q3:(hd++part x++G).length+((ByteArray.mk (pt x).toArray++ByteArray.mk #[32])++ByteArray.mk (wx x).toArray).size<=140737488355328:=by
      rw[ByteArray.size_append,ByteArray.size_append,Qo,Qo [32],Qo];simp only[q_jr,q_jk,List.length_nil];omega
     have hws:∀V,SG (MM m b) b b [(kb,.cells #[.int .i64 (ek x),.int .i64 (ei x),.int .i64 (ej x),.int .i64 (en x),.slice (ea x) (es x) (ec x),.int .i64 (el x)] 59 (0,0)),(lo,.cells Lf.toArray 25 (0,0)),(tb,.cells cs 30 (0,0))] (hd++part x++G) W1 V ->
       Calls Tryz.prog 29 #[.pointer (some ⟨b,0,none⟩),.string ((ByteArray.mk (pt x).toArray++ByteArray.mk #[32])++ByteArray.mk (wx x).toArray)] V fun e w'=>(∃n:Int,e=.returned (.tuple #[.int .i64 n,.nilIface]))/\SG (MM m b) b b [(kb,.cells #[.int .i64 (ek x),.int .i64 (ei x),.int .i64 (ej x),.int .i64 (en x),.slice (ea x) (es x) (ec x),.int .i64 (el x)] 59 (0,0)),(lo,.cells Lf.toArray 25 (0,0)),(tb,.cells cs 30 (0,0))] (hd++part x++G++(pt x++([32]++wx x))) W1 w':=
      fun V s=>(Ml s.bd q3 s.hB).mono (fun e w' h=>⟨⟨_,h.1⟩,s.put Fv (by have h2:=h.2.1;rwa [show ((ByteArray.mk (pt x).toArray++ByteArray.mk #[32])++ByteArray.mk (wx x).toArray).data.toList=pt x++([32]++wx x) by simp] at h2) h.2.2.1 h.2.2.2⟩)
     have sD:=hcut.keep Fv (Below.refl _ wc).drew;have hS:∀(T:List UInt8) V,SG (MM m b) b b [(kb,.cells #[.int .i64 (ek x),.int .i64 (ei x),.int .i64 (ej x),.int .i64 (en x),.slice (ea x) (es x) (ec x),.int .i64 (el x)] 59 (0,0)),(lo,.cells Lf.toArray 25 (0,0)),(tb,.cells cs 30 (0,0))] T W1 V ->
       V.cell? ⟨kb,0,none⟩=some (.int .i64 (ek x))/\V.cell? ⟨kb,1,none⟩=some (.int .i64 (ei x))/\V.cell? ⟨kb,2,none⟩=some (.int .i64 (ej x))/\V.cell? ⟨kb,3,none⟩=some (.int .i64 (en x))/\V.cell? ⟨kb,4,none⟩=some (.slice (ea x) (es x) (ec x))/\V.cell? ⟨kb,5,none⟩=some (.int .i64 (el x)):=
      fun T V s=>⟨s.cell (p:=kb) (List.mem_cons_self ..) 0,s.cell (p:=kb) (List.mem_cons_self ..) 1,s.cell (p:=kb) (List.mem_cons_self ..) 2,s.cell (p:=kb) (List.mem_cons_self ..) 3,s.cell (p:=kb) (List.mem_cons_self ..) 4,s.cell (p:=kb) (List.mem_cons_self ..) 5⟩
     have n1:¬(9223372036854775807<(pt x).length+1):=by omega
     have n2:¬(9223372036854775807<(pt x).length+1+(wx x).length):=by omega
     go_upto_region 15 with fail
     clear hlx hcut tP tW
     go_region_held3 (fun V=>V.cell? ⟨kb,0,none⟩=some (.int .i64 (ek x))/\V.cell? ⟨kb,1,none⟩=some (.int .i64 (ei x))/\V.cell? ⟨kb,2,none⟩=some (.int .i64 (ej x))/\V.cell? ⟨kb,3,none⟩=some (.int .i64 (en x))/\V.cell? ⟨kb,4,none⟩=some (.slice (ea x) (es x) (ec x))/\V.cell? ⟨kb,5,none⟩=some (.int .i64 (el x))) (first|exact hS _ _ (by assumption))
      (first
       |(go_at_call 32;refine (Aj5 _ (by assumption)).mono ?_;rintro e V5 ⟨rfl,s6⟩)
       |(go_at_call 33;refine (hwr _ (by assumption)).mono ?_;rintro e V6 ⟨rfl,s7⟩)
       |(go_at_call 29;refine (hws _ (by assumption)).mono ?_;rintro e V7 ⟨⟨n7,rfl⟩,s8⟩))
     have s9:=s8.mem (ks':=[(lo,.cells Lf.toArray 25 (0,0)),(tb,.cells cs 30 (0,0))]) (fun p hp=>List.mem_cons_of_mem _ hp);clear s8 s7 s6 hS Aj5 hwr hws n1 n2 q3 sD
     go_wp2
     go_roundw
     case rel=>
      refine⟨x+1,by omega,by simp,?_⟩;rw[pH.out,<-hGH.out];simpa only[q_ju,q_kn,q_km] using s9
     case measure=>simp[intOf];omega
   ·obtain rfl:x=nC:=by omega
    clear hE p1 Fo s5 p0 Adh hWr;have mt3:(tb,Obj.cells cs 30 (0,0))∈[(lo,Obj.cells Lf.toArray 25 (0,0)),(tb,Obj.cells cs 30 (0,0))]:=List.mem_cons_of_mem _ mt;have d2:=(hs.cell (p:=tb) mt3 2).trans c2;have tI:=hPI _ _ hs.p;clear hPI;have n1:¬(9223372036854775807<2+pI.length):=by omega
    go_wp2_with (go_at_call 32;refine tI.mono ?_)
    clear tI d2
    first|(rintro e W5 rfl k5)|(rintro e W5 ⟨rfl,k5⟩)
    have s6:=hs.keep Fv k5;have q3:(hd++part x).length+(ByteArray.mk #[41,32]++ByteArray.mk pI.toArray).size<=140737488355328:=by
     rw[Uh (a:=[41,32])];simp only[q_jr,q_jk,List.length_nil];omega
    go_wp2_with (go_at_call 29;refine (Ml s6.bd q3 s6.hB).mono ?_)
    first|(rintro e W6 rfl b6 k6 o6)|(rintro e W6 ⟨rfl,b6,k6,o6⟩)
    have s7:=s6.put Fv (Wc b6) k6 o6;clear s6 hs b6 k6 o6 k5 n1 q3
    go_wp2_with fail
    have hob:∀z,z<=nO->(Ie ((os.take z).map (·.1)) x).length<=1000001*z:=fun z=>by
     induction z with
     |zero=>intro _;exact q_ja _
     |succ z ih=>
      intro hz;have h1:=ih (by omega);have Pa:z<os.length:=by rw[hnlH.out];omega
      rw[List.take_add_one,q_f Pa,Option.toList_some,q_kt,Als,q_jr];have h2:=(Sq _ (q_kd Pa)).1;rw[q_h,q_i,Alt,q_jk];omega
    go_loopw [62] (fun y wr=>∃z:Nat,z<=nO/\y=.int .i64 z/\SG (MM m b) b b [(lo,.cells Lf.toArray 25 (0,0)),(tb,.cells cs 30 (0,0))] (hd++part x++([41,32]++pI)++Ie ((os.take z).map (·.1)) x) W1 wr) (fun y _=>nO-(intOf y).toNat)
    case atStart=>exact⟨0,Nat.zero_le _,rfl,by rw[List.take_zero];show SG _ _ _ _ (_++[]) _ _;rw[q_k];exact s7⟩
    case round=>
     obtain⟨z,hz,rfl,hs⟩:=hrel;have hobz:=hob z hz
     by_cases Aq:z<nO
     ·have Hs:z<os.length:=by rw[hnlH.out];exact Aq
      obtain⟨o,ho⟩:∃o,os[z]?=some o:=⟨_,q_f Hs⟩
      have hmem:o∈os:=q_jb ho;obtain⟨Qc,hoW⟩:=Sq o hmem;have hc:∀j,j<5->wr.cell? ⟨lo,z*5+j,none⟩=(tmC o.1 o.2.1 o.2.2)[j]?:=fun j hj=>by
       rw[hs.cell (p:=lo) (List.mem_cons_self ..) (z*5+j),List.getElem?_toArray,y6 z j hj,q_ji,ho];rfl
      have g0:wr.cell? ⟨lo,z*5,none⟩=some (.int .i64 o.1.k):=hc 0 (by decide);have g1:wr.cell? ⟨lo,z*5+1,none⟩=some (.int .i64 o.1.i):=hc 1 (by decide);have g2:wr.cell? ⟨lo,z*5+2,none⟩=some (.int .i64 o.1.j):=hc 2 (by decide);have g3:wr.cell? ⟨lo,z*5+3,none⟩=some (.int .i64 o.1.n):=hc 3 (by decide);have g4:wr.cell? ⟨lo,z*5+4,none⟩=some (.slice o.2.1 o.1.kids.length o.2.2):=hc 4 (by decide);have Aw:Ie ((os.take (z+1)).map (·.1)) x=Ie ((os.take z).map (·.1)) x++([32]++txT o.1 x):=by
       rw[List.take_add_one,ho,Option.toList_some,q_kt,Als,q_h,q_i,Alt];rfl
      have tkH:=Lib.hid Aw;clear Aw hc hob s7 y6 Sq ho;have ha:=hs.alloc Fv (cs:=#[.int .i64 o.1.k,.int .i64 o.1.i,.int .i64 o.1.j,.int .i64 o.1.n,.slice o.2.1 o.1.kids.length o.2.2]) (T:=25) (by decide);have d0:=(ha.cell (p:=tb) (List.mem_cons_of_mem _ mt3) 0).trans c0;have tW:=hoW _ _ ha.p;have Akg:(wr.alloc (.cells #[.int .i64 o.1.k,.int .i64 o.1.i,.int .i64 o.1.j,.int .i64 o.1.n,.slice o.2.1 o.1.kids.length o.2.2] 25)).heap.size=wr.heap.size+1:=by simp
      have szH:=Lib.hid Akg;clear Akg
      go_wp2_with (go_at_call 33;refine tW.mono ?_)
      clear tW d0 hoW g0 g1 g2 g3 g4;generalize wr.alloc (.cells #[.int .i64 o.1.k,.int .i64 o.1.i,.int .i64 o.1.j,.int .i64 o.1.n,.slice o.2.1 o.1.kids.length o.2.2] 25)=wa at *
      generalize wr.heap.size=kb at *
      first|(rintro e W7 rfl k7)|(rintro e W7 ⟨rfl,k7⟩)
      have k7:Below wa.heap.size wa W7:=by first|exact k7|(rw[szH.out];exact k7)
      have s8:=(ha.keep Fv k7).mem (ks':=[(lo,.cells Lf.toArray 25 (0,0)),(tb,.cells cs 30 (0,0))]) (fun p hp=>List.mem_cons_of_mem _ hp);have n1:¬(9223372036854775807<1+(txT o.1 x).length):=by omega
      have q4:(hd++part x++([41,32]++pI)++Ie ((os.take z).map (·.1)) x:List UInt8).length+(ByteArray.mk #[32]++ByteArray.mk (txT o.1 x).toArray).size<=140737488355328:=by
       rw[Uh (a:=[32])];simp only[q_jr,q_jk,List.length_nil];omega
      go_wp2_with (go_at_call 29;refine (Ml s8.bd q4 s8.hB).mono ?_)
      first|(rintro e W8 rfl b8 k8 o8)|(rintro e W8 ⟨rfl,b8,k8,o8⟩)
      have s9:=s8.put Fv (Wc b8) k8 o8;clear s8 b8 k8 o8 n1 q4 ha hs
      go_wp2
      go_roundw
      case rel=>
       refine⟨z+1,by omega,by simp,?_⟩;rw[tkH.out,<-q_ju];exact s9
      case measure=>simp[intOf];omega
     ·have hzn:z=nO:=by omega
      have Akh:os.take z=os:=q_js (by rw[hnlH.out];omega);rw[Akh] at hs hobz;clear hob s7 y6 Sq hzn Akh;have q5:(hd++part x++([41,32]++pI)++Ie (os.map (·.1)) x:List UInt8).length+(ByteArray.mk #[41,10]).size<=140737488355328:=by
       rw[Qo [41,10]];simp only[q_jr,q_jk,List.length_nil];omega
      go_wp2_with (go_at_call 29;refine (Ml hs.bd q5 hs.hB).mono ?_)
      first|(rintro e W8 rfl b8 k8 o8)|(rintro e W8 ⟨rfl,b8,k8,o8⟩)
      have s9:=hs.put Fv b8 k8 o8
      go_wp2_with (go_at_call 34;refine (Ag2 s9.bd s9.hB).mono ?_)
      first|(rintro e W9 rfl k9 _)|(rintro e W9 ⟨rfl,k9,_⟩)
      go_wp2
      go_ret
      refine⟨?_,by rw[Nz];exact b1.trans (Hl (s9.be.trans k9) Nn)⟩;rw[homH.out,hhH.out];have e9:Hy q++(part x++41::32::(pI++(Ie ol x++[41,10])))=Hy q++part x++([41,32]++pI)++Ie ol x++[41,10]:=by simp
      first
      |(rw[e9];rfl)
      |(rw[<-e9];rfl)
end Go.Proofs.YtgfehkhcmnfpaaaGreatDoor.Abs
