import Derived.Test.YtdpigpopcbjkmaaGreatDoorZRb
import Derived.Test.YtdpigpopcbjkmaaGreatDoorProg
import Derived.Test.YtdpigpopcbjkmaaGreatDoorChecked
import Derived.WalkKit
import Derived.WalkLawsBesides
import Derived.Defers
import Derived.Recover
import Derived.Test.YtdpigpopcbjkmaaGreatDoorZTs
import Derived.Test.YtdpigpopcbjkmaaGreatDoorZPi
import Derived.OneCell
set_option linter.unusedSimpArgs false
set_option linter.unusedVariables false
set_option maxRecDepth 20000
set_option maxHeartbeats 4000000
namespace Go.Proofs.YtdpigpopcbjkmaaGreatDoor.Abs
open Go Go.RowKit Go.Proofs.YtdpigpopcbjkmaaGreatDoor
theorem Dc {C:CT} {b:AC} {Q:AE->St->Prop} {n:Nat} {s s':St} (h:Wk s s') (k:vcI C b Q n s'):vcI C b Q n s:=by
 cases n with
 |zero=>exact k
 |succ n=>
  obtain⟨s0,h1,h2⟩:=k;exact⟨s0,.trans h h1,h2⟩
def EvL (G:List (List SV)) (m:Nat) (t:Tm) (e:List Nat) (out:HOut) (G':List (List SV)):Prop:=
 ∃n,vcI (Bd Tryz.prog fun x G1=>out=.pan x/\G1=G') a90_54 (bk 0 (rtG [.t 6] out G')) n ⟨(.gp m 0::.jk::Bj e::.jk::.ref 1 0 0 0::.jk::.jk::.jk::.jk::.jk::.jk::.jk::.jk::.jk::.jk::.jk::.jk::.jk::.jk::.jk::.jk::.jk::.jk::.jk::.jk::.jk::.jk::.jk::.jk::.jk::.jk::.jk::.jk::.jk::.jk::.jk::.jk::.jk::.jk::.jk::.jk::.jk::.jk::.jk::.jk::.jk::.jk::.jk::.jk::.jk::.jk::.jk::.jk::.jk::.jk::.jk::.jk::.jk::.jk::.jk::.jk::.jk::.jk::.jk::.jk::.jk::.jk::.jk::.jk::.jk::.jk::.jk::.jk::.jk::.jk::.jk::.jk::.jk::.jk::.jk::.jk::.jk::.jk::.jk::.jk::.jk::.jk::.jk::.jk::.jk::.jk::.jk::.jk::.jk::.jk::.jk::.jk::.jk::.jk::.jk::.jk::.jk::.jk::.jk::.jk::.jk::.jk::.jk::.jk::.jk::.jk::.jk::.jk::.jk::.jk::.jk::.jk::.jk::.jk::.jk::.jk::.jk::.jk::.jk::.jk::.jk::.jk::.jk::.jk::.jk::.jk::.jk::.jk::.jk::.jk::.jk::.jk::.jk::.jk::.jk::.jk::.jk::.jk::.jk::.jk::.jk::.jk::.jk::.jk::.jk::[]),[gOb G,⟨true,5,[tv t],0,0,true⟩]⟩
theorem Ea {G G':List (List SV)} {m:Nat} {t:Tm} {e:List Nat} {out:HOut} (h:EvL G m t e out G'):Ad 90 G [.gp m 0,.agg true (tv t),Bj e] out G':=by
 refine Aq mixed Tryz.func90 tr90 ?_;obtain⟨n,h⟩:=h;simp only [go_sem,seval,Ag];exact Cf n (Dc (As (by simp [Ao])) h)
def Mw:HOut->Prop
 |.ret r=>∃v,r=vlV v
 |.pan _=>True
theorem Aj1 {G G':List (List SV)} {m i id:Nat} {j n:Int} {l:List Tm} {e:List Nat} {out:HOut} (hf:fit i) (hi:e[i]?=some id) (h:Ad 68 G [.gp m 0,.gp id 0] out G') (ho:Mw out):EvL G m (.mk 2 i j n l) e out G':=by
 refine⟨1,Ak ?_⟩;rw [Am];simp only [go_sem,seval];refine Aa (Aiy e i hf) ?_;simp only [go_sem,seval,hi];cases out with
 |ret r=>
  obtain⟨v,rfl⟩:=ho;refine Ac h ?_;simp only [go_sem,seval]
 |pan x=>exact Dh h trivial ⟨rfl,rfl⟩
theorem Aw3 {G:List (List SV)} {m i:Nat} {j n:Int} {l:List Tm} {e:List Nat} (hf:fit i) (hi:e[i]?=none) (he:fit e.length):EvL G m (.mk 2 i j n l) e (.ret (vlV ⟨2,0,0,0,(e.length:Int)-i-1,[]⟩)) G:=by
 have hle:e.length<=i:=List.getElem?_eq_none_iff.1 hi;refine⟨1,Ak ?_⟩;rw [Am];simp only [go_sem,seval];refine Aa (Aiy e i hf) ?_;simp only [go_sem,seval,hi];refine Aa (Ad0 e) ?_;unfold fit at hf he;simp only [go_sem,seval,w64 (show fit ((e.length:Int)-i) by unfold fit;omega),w64 (show fit ((e.length:Int)-i-1) by unfold fit;omega),vlV,vlC,Ww]
theorem Adl {k:Int} (h:k≠15/\k≠18/\k≠19/\k≠22):Con 92 [.int .i64 k] (.int .i64 (-1)):=by
 have:=Abw k
 rwa [if_neg (by omega),if_neg h.2.2.2] at this
theorem Ix {k:Int} (h:k=15\/k=18\/k=19):Con 92 [.int .i64 k] (.int .i64 0):=by
 have:=Abw k
 rwa [if_pos h] at this
theorem Qo:Con 92 [.int .i64 22] (.int .i64 5):=Abw 22
theorem Auv {G:List (List SV)} {m:Nat} (k' i' j' n':Int) (e:List Nat) (k:Int) (y:Option Vl) :
  Ad 111 G [.gp m 0,.agg true (tv (.mk k' i' j' n' [])),Bj e,.int .i64 k,Cx y] (.ret (vlV ⟨k',i',j',n',0,[]⟩)) G:=by
 refine Aq mixed Tryz.func111 tr111 ?_;rw [Am];simp only [go_sem,seval,q_i];refine Cf 1 (Ak ?_);simp only [go_sem,seval,vlV,vlC,Ww]
def Hx (k' i' j' n':Int) (l:List Tm) (a:Nat):Vl:=⟨k',i',j',n',0,List.range' a l.length⟩
theorem Xz {G:List (List SV)} {m:Nat} (k' i' j' n':Int) (l:List Tm) (hb:l.length*56<=140737488355328) (e:List Nat) (k:Int) (y:Option Vl) (hy:∀q:Nat,q<l.length->(q:Int)=k->∃v,y=some v) :
  Ad 111 G [.gp m 0,.agg true (tv (.mk k' i' j' n' l)),Bj e,.int .i64 k,Cx y] (.ret (vlV (Hx k' i' j' n' l G.length))) (G++Fd k y e 0 l):=by
 by_cases hz:l=[]
 ·subst hz;have:=Auv (G:=G) (m:=m) k' i' j' n' e k y;simpa [Hx,Fd] using this
 ·exact A2f k' i' j' n' l hb hz e k y hy
theorem Ada {G:List (List SV)} {m:Nat} {k i j n:Int} {l:List Tm} {e:List Nat} (hb:l.length*56<=140737488355328) (hk:k≠2) (hs:k≠15/\k≠18/\k≠19/\k≠22):EvL G m (.mk k i j n l) e (.ret (vlV (Hx k i j n l G.length))) (G++Fd (-1) none e 0 l):=by
 refine⟨1,Ak ?_⟩;have hc:=Xz (G:=G) (m:=m) k i j n l hb e (-1) none (fun q _ h=>by omega);rw [Sl,Am] at hc;rw [Am];simp only [go_sem,seval,Ah hk];refine Aa (Adl hs) ?_;simp only [go_sem,seval];refine Ac hc ?_;simp only [go_sem,seval]
theorem Dt {α:Type} {l:List α} {i:Nat} {x:α} (h:l[i]?=some x):i<l.length:=by
 rcases Nat.lt_or_ge i l.length with h1|h1
 ·exact h1
 ·rw [List.getElem?_eq_none h1] at h;cases h
theorem Kd {l:List Nat} {q id:Nat} (h:l[q]?=some id):Dx l=.dsl 1 (l.map fun i=>[.gp i 0])/\(q:Int)<l.length/\q<l.length/\(l.map fun i=>[SV.gp i 0])[q]?.getD []=[.gp id 0]:=by
 have hq:q<l.length:=by
  rcases Nat.lt_or_ge q l.length with h1|h1
  ·exact h1
  ·rw [List.getElem?_eq_none h1] at h;cases h
 refine⟨Ph (by rintro rfl;simp at hq),by omega,hq,by simp [h]⟩
theorem Aig {G G1 G2 G':List (List SV)} {m id:Nat} {i' j' n':Int} {f a:Tm} {e:List Nat} {out:HOut} {y:Vl} {th:Th} (hy:Ad 90 G [.gp m 0,.agg true (tv f),Bj e] (.ret (vlV y)) G1) (yk:y.k=14)
  (Bb:y.kids[1]?=some id) (ht:Ad 93 G1 [.gp m 0] (.ret (.tup [])) G2) (Ew:G2[id]?=some (thR th)) (hb:th.bare=false) (hl:fit ((th.env.length:Int)+1))
  (h:EvL (G2++[thR ⟨a,e,false,none,none⟩]) m th.t (G2.length::th.env) out G'):EvL G m (.mk 15 i' j' n' [f,a]) e out G':=by
 obtain⟨n,h⟩:=h;refine⟨n+1,Ak ?_⟩;obtain⟨t,te,b,w,v⟩:=th;simp only at hb hl;subst hb;obtain⟨k1,k2,k3,k4⟩:=Kd Bb;rw [Am];simp only [go_sem,seval,q_h,q_i];refine Aa (Ix (.inl rfl)) ?_;simp only [go_sem,seval,q_h,q_i,Ag];refine Ac hy ?_;simp only [go_sem,seval,vlV,yk];refine Ac ht ?_;have k2':(1:Int)<y.kids.length:=by omega
 have Ab:id<G2.length:=Dt Ew;simp only [go_sem,seval,vlV,yk,k1,k2',k3,k4,Ew,Ab,q_h,q_i,Ag,q_g];refine Ac (Qt _ a e) ?_;simp only [go_sem,seval,Ew,Ab];refine Aa (Uz te _ hl) ?_;simp only [go_sem,seval];exact Dc (As (by simp [Ao])) h
theorem Agm {G G1 G2:List (List SV)} {m:Nat} {x:SV} {i' j' n':Int} {f a:Tm} {e:List Nat} {y:Vl} (hy:Ad 90 G [.gp m 0,.agg true (tv f),Bj e] (.ret (vlV y)) G1) (yk:y.k=14)
  (ht:Ad 93 G1 [.gp m 0] (.pan x) G2):EvL G m (.mk 15 i' j' n' [f,a]) e (.pan x) G2:=by
 refine⟨1,Ak ?_⟩;rw [Am];simp only [go_sem,seval,q_h,q_i];refine Aa (Ix (.inl rfl)) ?_;simp only [go_sem,seval,q_h,q_i,Ag];refine Ac hy ?_;simp only [go_sem,seval,vlV,yk];exact Dh ht trivial ⟨rfl,rfl⟩
theorem Agw {G G1:List (List SV)} {m:Nat} {i' j' n':Int} {f a:Tm} {e:List Nat} {x:SV} (hy:Ad 90 G [.gp m 0,.agg true (tv f),Bj e] (.pan x) G1):EvL G m (.mk 15 i' j' n' [f,a]) e (.pan x) G1:=by
 refine⟨1,Ak ?_⟩;rw [Am];simp only [go_sem,seval,q_h,q_i];refine Aa (Ix (.inl rfl)) ?_;simp only [go_sem,seval,q_h,q_i,Ag];exact Dh hy trivial ⟨rfl,rfl⟩
theorem Bcw {G G1:List (List SV)} {m:Nat} {i' j' n':Int} {f a:Tm} {e:List Nat} {y:Vl} (hy:Ad 90 G [.gp m 0,.agg true (tv f),Bj e] (.ret (vlV y)) G1) (yk:y.k≠14):EvL G m (.mk 15 i' j' n' [f,a]) e (.ret (vlV (Hx 15 i' j' n' [f,a] G1.length))) (G1++Fd 0 (some y) e 0 [f,a]):=by
 refine⟨1,Ak ?_⟩;have hc:=Xz (G:=G1) (m:=m) 15 i' j' n' [f,a] (by simp) e 0 (some y) (fun q _ h=>⟨y,rfl⟩);rw [Jj,Am] at hc;rw [Am];simp only [go_sem,seval,q_h,q_i] at hc |-;refine Aa (Ix (.inl rfl)) ?_;simp only [go_sem,seval,q_h,q_i,Ag];refine Ac hy ?_;simp only [go_sem,seval,vlV,Ah yk];refine Ac hc ?_;simp only [go_sem,seval,vlV]
theorem Ahk {G G1:List (List SV)} {m:Nat} {i' j' n':Int} {f:Tm} {e:List Nat} {x:SV} (hy:Ad 90 G [.gp m 0,.agg true (tv f),Bj e] (.pan x) G1):EvL G m (.mk 18 i' j' n' [f]) e (.pan x) G1:=by
 refine⟨1,Ak ?_⟩;rw [Am];simp only [go_sem,seval,q_h,q_i];refine Aa (Ix (.inr (.inl rfl))) ?_;simp only [go_sem,seval,q_h,q_i,Ag];exact Dh hy trivial ⟨rfl,rfl⟩
theorem A6d {G G1:List (List SV)} {m:Nat} {i' j' n':Int} {f:Tm} {e:List Nat} {y:Vl} (hy:Ad 90 G [.gp m 0,.agg true (tv f),Bj e] (.ret (vlV y)) G1) (yk:y.k≠17):EvL G m (.mk 18 i' j' n' [f]) e (.ret (vlV (Hx 18 i' j' n' [f] G1.length))) (G1++Fd 0 (some y) e 0 [f]):=by
 refine⟨1,Ak ?_⟩;have hc:=Xz (G:=G1) (m:=m) 18 i' j' n' [f] (by simp) e 0 (some y) (fun q _ h=>⟨y,rfl⟩);rw [Jj,Am] at hc;rw [Am];simp only [go_sem,seval,q_h,q_i] at hc |-;refine Aa (Ix (.inr (.inl rfl))) ?_;simp only [go_sem,seval,q_h,q_i,Ag];refine Ac hy ?_;simp only [go_sem,seval,vlV,Ah yk];refine Ac hc ?_;simp only [go_sem,seval,vlV]
theorem Agb {G G1:List (List SV)} {m:Nat} {i' j' n':Int} {f:Tm} {e:List Nat} {x:SV} (hy:Ad 90 G [.gp m 0,.agg true (tv f),Bj e] (.pan x) G1):EvL G m (.mk 19 i' j' n' [f]) e (.pan x) G1:=by
 refine⟨1,Ak ?_⟩;rw [Am];simp only [go_sem,seval,q_h,q_i];refine Aa (Ix (.inr (.inr rfl))) ?_;simp only [go_sem,seval,q_h,q_i,Ag];exact Dh hy trivial ⟨rfl,rfl⟩
theorem Aqo {G G1:List (List SV)} {m:Nat} {i' j' n':Int} {f:Tm} {e:List Nat} {y:Vl} (hy:Ad 90 G [.gp m 0,.agg true (tv f),Bj e] (.ret (vlV y)) G1) (yk:y.k≠17):EvL G m (.mk 19 i' j' n' [f]) e (.ret (vlV (Hx 19 i' j' n' [f] G1.length))) (G1++Fd 0 (some y) e 0 [f]):=by
 refine⟨1,Ak ?_⟩;have hc:=Xz (G:=G1) (m:=m) 19 i' j' n' [f] (by simp) e 0 (some y) (fun q _ h=>⟨y,rfl⟩);rw [Jj,Am] at hc;rw [Am];simp only [go_sem,seval,q_h,q_i] at hc |-;refine Aa (Ix (.inr (.inr rfl))) ?_;simp only [go_sem,seval,q_h,q_i,Ag];refine Ac hy ?_;simp only [go_sem,seval,vlV,Ah yk];refine Ac hc ?_;simp only [go_sem,seval,vlV]
theorem Af0 {G G1:List (List SV)} {m:Nat} {i' j' n':Int} {a0 a1 a2 a3 a4 f:Tm} {e:List Nat} {x:SV} (hy:Ad 90 G [.gp m 0,.agg true (tv f),Bj e] (.pan x) G1):EvL G m (.mk 22 i' j' n' [a0,a1,a2,a3,a4,f]) e (.pan x) G1:=by
 refine⟨1,Ak ?_⟩;rw [Am];simp only [go_sem,seval,q_h,q_i];refine Aa (Qo) ?_;simp only [go_sem,seval,q_h,q_i,Ag];exact Dh hy trivial ⟨rfl,rfl⟩
theorem Aru {G G1:List (List SV)} {m:Nat} {i' j' n':Int} {a0 a1 a2 a3 a4 f:Tm} {e:List Nat} {y:Vl} (hy:Ad 90 G [.gp m 0,.agg true (tv f),Bj e] (.ret (vlV y)) G1) (yk:y.k≠21):EvL G m (.mk 22 i' j' n' [a0,a1,a2,a3,a4,f]) e (.ret (vlV (Hx 22 i' j' n' [a0,a1,a2,a3,a4,f] G1.length))) (G1++Fd 5 (some y) e 0 [a0,a1,a2,a3,a4,f]):=by
 refine⟨1,Ak ?_⟩;have hc:=Xz (G:=G1) (m:=m) 22 i' j' n' [a0,a1,a2,a3,a4,f] (by simp) e 5 (some y) (fun q _ h=>⟨y,rfl⟩);rw [Jj,Am] at hc;rw [Am];simp only [go_sem,seval,q_h,q_i] at hc |-;refine Aa (Qo) ?_;simp only [go_sem,seval,q_h,q_i,Ag];refine Ac hy ?_;simp only [go_sem,seval,vlV,Ah yk];refine Ac hc ?_;simp only [go_sem,seval,vlV]
theorem Av3 {G G1 G2 G':List (List SV)} {m id:Nat} {i' j' n':Int} {f:Tm} {e:List Nat} {out:HOut} {y:Vl} (hy:Ad 90 G [.gp m 0,.agg true (tv f),Bj e] (.ret (vlV y)) G1) (yk:y.k=17)
  (Bb:y.kids[2]?=some id) (ht:Ad 93 G1 [.gp m 0] (.ret (.tup [])) G2)
  (h:Ad 68 G2 [.gp m 0,.gp id 0] out G') (ho:Mw out):EvL G m (.mk 18 i' j' n' [f]) e out G':=by
 refine⟨1,Ak ?_⟩;obtain⟨k1,k2,k3,k4⟩:=Kd Bb;have k2':(2:Int)<y.kids.length:=by omega
 rw [Am];simp only [go_sem,seval,q_h,q_i];refine Aa (Ix (.inr (.inl rfl))) ?_;simp only [go_sem,seval,q_h,q_i,Ag];refine Ac hy ?_;simp only [go_sem,seval,vlV,yk];refine Ac ht ?_;simp only [go_sem,seval,vlV,yk,k1,k2',k3,k4,q_h,q_i,Ag,q_g];cases out with
 |ret r=>
  obtain⟨v,rfl⟩:=ho;refine Ac h ?_;simp only [go_sem,seval]
 |pan x=>exact Dh h trivial ⟨rfl,rfl⟩
theorem Akk {G G1 G2:List (List SV)} {m:Nat} {x:SV} {i' j' n':Int} {f:Tm} {e:List Nat} {y:Vl} (hy:Ad 90 G [.gp m 0,.agg true (tv f),Bj e] (.ret (vlV y)) G1) (yk:y.k=17)
  (ht:Ad 93 G1 [.gp m 0] (.pan x) G2):EvL G m (.mk 18 i' j' n' [f]) e (.pan x) G2:=by
 refine⟨1,Ak ?_⟩;rw [Am];simp only [go_sem,seval,q_h,q_i];refine Aa (Ix (.inr (.inl rfl))) ?_;simp only [go_sem,seval,q_h,q_i,Ag];refine Ac hy ?_;simp only [go_sem,seval,vlV,yk];exact Dh ht trivial ⟨rfl,rfl⟩
theorem A5m {G G1 G2 G':List (List SV)} {m id:Nat} {i' j' n':Int} {f:Tm} {e:List Nat} {out:HOut} {y:Vl} (hy:Ad 90 G [.gp m 0,.agg true (tv f),Bj e] (.ret (vlV y)) G1) (yk:y.k=17)
  (Bb:y.kids[3]?=some id) (ht:Ad 93 G1 [.gp m 0] (.ret (.tup [])) G2)
  (h:Ad 68 G2 [.gp m 0,.gp id 0] out G') (ho:Mw out):EvL G m (.mk 19 i' j' n' [f]) e out G':=by
 refine⟨1,Ak ?_⟩;obtain⟨k1,k2,k3,k4⟩:=Kd Bb;have k2':(3:Int)<y.kids.length:=by omega
 rw [Am];simp only [go_sem,seval,q_h,q_i];refine Aa (Ix (.inr (.inr rfl))) ?_;simp only [go_sem,seval,q_h,q_i,Ag];refine Ac hy ?_;simp only [go_sem,seval,vlV,yk];refine Ac ht ?_;simp only [go_sem,seval,vlV,yk,k1,k2',k3,k4,q_h,q_i,Ag,q_g];cases out with
 |ret r=>
  obtain⟨v,rfl⟩:=ho;refine Ac h ?_;simp only [go_sem,seval]
 |pan x=>exact Dh h trivial ⟨rfl,rfl⟩
theorem Ag4 {G G1 G2:List (List SV)} {m:Nat} {x:SV} {i' j' n':Int} {f:Tm} {e:List Nat} {y:Vl} (hy:Ad 90 G [.gp m 0,.agg true (tv f),Bj e] (.ret (vlV y)) G1) (yk:y.k=17)
  (ht:Ad 93 G1 [.gp m 0] (.pan x) G2):EvL G m (.mk 19 i' j' n' [f]) e (.pan x) G2:=by
 refine⟨1,Ak ?_⟩;rw [Am];simp only [go_sem,seval,q_h,q_i];refine Aa (Ix (.inr (.inr rfl))) ?_;simp only [go_sem,seval,q_h,q_i,Ag];refine Ac hy ?_;simp only [go_sem,seval,vlV,yk];exact Dh ht trivial ⟨rfl,rfl⟩
theorem A3g {G G1 G2 G':List (List SV)} {m:Nat} {i' j' n':Int} {a0 a1 a2 a3 a4 f:Tm} {e:List Nat} {out:HOut} {y:Vl} (hy:Ad 90 G [.gp m 0,.agg true (tv f),Bj e] (.ret (vlV y)) G1) (yk:y.k=21)
  (ht:Ad 93 G1 [.gp m 0] (.ret (.tup [])) G2)
  (h:EvL G2 m a3 e out G'):EvL G m (.mk 22 i' j' n' [a0,a1,a2,a3,a4,f]) e out G':=by
 obtain⟨n,h⟩:=h;refine⟨n+1,Ak ?_⟩;rw [Am];simp only [go_sem,seval,q_h,q_i];refine Aa Qo ?_;simp only [go_sem,seval,q_h,q_i,Ag];refine Ac hy ?_;simp only [go_sem,seval,vlV,yk];refine Ac ht ?_;simp only [go_sem,seval,vlV,yk,q_h,q_i,Ag,q_g];exact Dc (As (by simp [Ao])) h
theorem Agl {G G1 G2:List (List SV)} {m:Nat} {x:SV} {i' j' n':Int} {a0 a1 a2 a3 a4 f:Tm} {e:List Nat} {y:Vl} (hy:Ad 90 G [.gp m 0,.agg true (tv f),Bj e] (.ret (vlV y)) G1) (yk:y.k=21)
  (ht:Ad 93 G1 [.gp m 0] (.pan x) G2):EvL G m (.mk 22 i' j' n' [a0,a1,a2,a3,a4,f]) e (.pan x) G2:=by
 refine⟨1,Ak ?_⟩;rw [Am];simp only [go_sem,seval,q_h,q_i];refine Aa Qo ?_;simp only [go_sem,seval,q_h,q_i,Ag];refine Ac hy ?_;simp only [go_sem,seval,vlV,yk];exact Dh ht trivial ⟨rfl,rfl⟩
theorem Ago {G:List (List SV)} {m id:Nat} {th:Th} {v:Vl} (h:G[id]?=some (thR th)) (hw:th.w=some v):Ad 68 G [.gp m 0,.gp id 0] (.ret (vlV v)) G:=by
 refine Aq mixed Tryz.func68 tr68 ?_;obtain⟨t,te,b,w,x⟩:=th;simp only at hw;subst hw;simp only [go_sem,seval,h,Jj,vlV]
theorem Ack {G G1:List (List SV)} {m id:Nat} {th th1:Th} {v:Vl} (h:G[id]?=some (thR th)) (hw:th.w=none) (hb:th.bare=false) (he:Ad 90 G [.gp m 0,.agg true (tv th.t),Bj th.env] (.ret (vlV v)) G1) (h1:G1[id]?=some (thR th1)) :
  Ad 68 G [.gp m 0,.gp id 0] (.ret (vlV v)) (G1.set id (thR { th1 with w:=some v })):=by
 refine Aq mixed Tryz.func68 tr68 ?_;obtain⟨t,te,b,w,x⟩:=th;simp only at hw hb he;subst hw hb;simp only [go_sem,seval,h,Sl];refine Ac he ?_;have Ab:=Dt h1;simp only [go_sem,seval,h1,Aha,Fa h1,Jk,Jj,List.getElem?_set_self Ab]
theorem Ajm {G G1:List (List SV)} {m id:Nat} {th:Th} {x:SV} (h:G[id]?=some (thR th)) (hw:th.w=none) (hb:th.bare=false) (he:Ad 90 G [.gp m 0,.agg true (tv th.t),Bj th.env] (.pan x) G1) :
  Ad 68 G [.gp m 0,.gp id 0] (.pan x) G1:=by
 refine Aq mixed Tryz.func68 tr68 ?_;obtain⟨t,te,b,w,y⟩:=th;simp only at hw hb he;subst hw hb;simp only [go_sem,seval,h,Sl];exact Dh he trivial ⟨rfl,rfl⟩
inductive Rg (G:List (List SV)):Vl->Prop
 |base {v:Vl} (h:v.k≠23) (hs:v.k≠15/\v.k≠18/\v.k≠19/\v.k≠22):Rg G v
 |step0 {v y:Vl} {id:Nat} {th:Th} (h:v.k=15\/v.k=18\/v.k=19) (Bb:v.kids[0]?=some id) (Ew:G[id]?=some (thR th)) (hw:th.w=some y) (hy:Rg G y):Rg G v
 |step5 {v y:Vl} {id:Nat} {th:Th} (h:v.k=22) (Bb:v.kids[5]?=some id) (Ew:G[id]?=some (thR th)) (hw:th.w=some y) (hy:Rg G y):Rg G v
def Bfv (G:List (List SV)) (m:Nat) (v:Vl) (out:HOut):Prop:=
 ∃n,vcI (Bd Tryz.prog fun x G1=>out=.pan x/\G1=G) a69_24 (bk 0 (rtG [.t 4] out G)) n ⟨(.gp m 0::vlV v::.jk::.jk::.int .i64 0::.jk::.jk::.jk::.jk::.jk::.jk::.jk::.jk::.jk::.jk::.jk::.jk::.jk::.jk::.jk::.jk::.jk::.jk::.jk::.jk::.jk::.jk::.jk::.jk::.jk::.jk::.jk::.jk::.jk::.jk::.jk::.jk::.jk::.jk::.jk::.jk::.jk::.jk::.jk::.jk::.jk::.jk::.jk::.jk::.jk::.jk::.jk::.jk::.jk::.jk::[]),[gOb G]⟩
theorem Aul {G:List (List SV)} {m:Nat} {v:Vl} (h:Rg G v) {out:HOut} (ho:out=.ret (.int .i64 0)):Bfv G m v out:=by
 induction h with
 |base h hs=>
  refine⟨1,Ak ?_⟩;simp only [go_sem,seval,vlV,Ah h];refine Aa (Adl hs) ?_;subst ho;simp only [go_sem,seval]
 |@step0 v y id th h Bb Ew hw hy ih=>
  obtain⟨n,ih⟩:=ih;refine⟨n+1,Ak ?_⟩;obtain⟨k1,k2,k3,k4⟩:=Kd Bb;have k2':(0:Int)<v.kids.length:=by omega
  have Ct:v.k≠23:=by omega
  obtain⟨t,te,b,w,x⟩:=th;simp only at hw;subst hw;simp only [go_sem,seval,vlV,Ah Ct];refine Aa (Ix h) ?_;simp only [go_sem,seval,vlV,k1,k2',k3,k4,Ew,Jj,q_g];exact Dc (As (by simp [Ao,vlV])) ih
 |@step5 v y id th h Bb Ew hw hy ih=>
  obtain⟨n,ih⟩:=ih;refine⟨n+1,Ak ?_⟩;obtain⟨k1,k2,k3,k4⟩:=Kd Bb;have k2':(5:Int)<v.kids.length:=by omega
  have Ct:v.k≠23:=by omega
  have h5:Con 92 [.int .i64 v.k] (.int .i64 5):=by rw [h];exact Qo
  obtain⟨t,te,b,w,x⟩:=th;simp only at hw;subst hw;simp only [go_sem,seval,vlV,Ah Ct];refine Aa h5 ?_;simp only [go_sem,seval,vlV,k1,k2',k3,k4,Ew,Jj,q_g];exact Dc (As (by simp [Ao,vlV])) ih
theorem A5f {G:List (List SV)} {m:Nat} {v:Vl} (h:Rg G v):Ad 69 G [.gp m 0,vlV v] (.ret (.int .i64 0)) G:=by
 obtain⟨out,ho⟩:∃out,out=HOut.ret (.int .i64 0):=⟨_,rfl⟩
 rw [<-ho];refine Aq mixed Tryz.func69 tr69 ?_;obtain⟨n,h⟩:=Aul (m:=m) h ho;simp only [go_sem,seval];exact Cf n (Dc (As (by simp [Ao])) h)
theorem Bdk {G:List (List SV)} {m id:Nat} {th:Th} {v:Vl} (h:G[id]?=some (thR th)) (hv:th.v=some v):Ad 46 G [.gp m 0,.gp id 0] (.ret (vlV v)) G:=by
 refine Aq mixed Tryz.func46 tr46 ?_;obtain⟨t,te,b,w,x⟩:=th;simp only at hv;subst hv;simp only [go_sem,seval,h,Jj,vlV]
theorem Aqz {G G1:List (List SV)} {m id:Nat} {th th1:Th} {v:Vl} (h:G[id]?=some (thR th)) (hv:th.v=none) (he:Ad 68 G [.gp m 0,.gp id 0] (.ret (vlV v)) G1) (h1:G1[id]?=some (thR th1)) (hn:Rg G1 v) :
  Ad 46 G [.gp m 0,.gp id 0] (.ret (vlV v)) (G1.set id (thR { th1 with v:=some v })):=by
 refine Aq mixed Tryz.func46 tr46 ?_;obtain⟨t,te,b,w,y⟩:=th;simp only at hv;subst hv;simp only [go_sem,seval,h,Sl];refine Ac he ?_;have Ab:=Dt h1;simp only [go_sem,seval];refine Cf 1 (Ak ?_);simp only [go_sem,seval];refine Ac (A5f hn) ?_;simp only [go_sem,seval,h1,Ad3,Fa h1,Jk,Jj,List.getElem?_set_self Ab]
theorem Aiw {G G1:List (List SV)} {m id:Nat} {th:Th} {x:SV} (h:G[id]?=some (thR th)) (hv:th.v=none) (he:Ad 68 G [.gp m 0,.gp id 0] (.pan x) G1) :
  Ad 46 G [.gp m 0,.gp id 0] (.pan x) G1:=by
 refine Aq mixed Tryz.func46 tr46 ?_;obtain⟨t,te,b,w,y⟩:=th;simp only at hv;subst hv;simp only [go_sem,seval,h,Sl];exact Dh he trivial ⟨rfl,rfl⟩
theorem HContract.weaken {P:Program} {f:Nat} {G G':List (List SV)} {args:List SV} {r r':SV} (h:HContract P f G args (.ret r) G') (hl:Le r r'):HContract P f G args (.ret r') G':=by
 intro m w vs h1 h2 h3 h4;refine Calls.mono (h m w vs h1 h2 h3 h4) (fun e w' he=>?_);obtain⟨m',⟨v,a1,a2⟩,a3⟩:=he;exact⟨m',⟨v,a1,hl.rep a2⟩,a3⟩
theorem A5g {G G':List (List SV)} {m j id:Nat} {steps most seen guess:Int} {v:Vl} {deep:Int} (hG:G[m]?=some (Bv steps most seen guess j)) (hf:fit guess) (hg:guess≠1) (hs:seen<8000000) (Fm:0<=seen)
  (h:Ad 46 (G.set m (Bv steps most (seen+1) (Mv guess) j)) [.gp m 0,.gp id 0] (.ret (vlV v)) G') (hk:v.k≠2) (hl:v.kids=[]) :
  Ad 35 G [.gp m 0,.gp id 0,.int .i64 deep] (.ret (.agg true (tv (.mk v.k v.i v.j v.n [])))) G':=by
 refine (Aq (out:=.ret (.agg true [.int .i64 v.k,.int .i64 v.i,.int .i64 v.j,.int .i64 v.n,.nils])) mixed Tryz.func35 tr35 ?_).weaken (Mh _ _ _ _);simp only [go_sem,seval];refine Ac (Aic hG hf hg Fm hs) ?_;simp only [go_sem,seval];refine Ac h ?_;simp only [go_sem,seval,vlV,Ah hk,hl,Ww];refine Cf 1 (Ak ?_);simp only [go_sem,seval,q_i]
theorem A1m {G:List (List SV)} {m:Nat} {v:Vl} {deep:Int} (hk:v.k≠2) (hl:v.kids=[]) :
  Ad 45 G [.gp m 0,vlV v,.int .i64 deep] (.ret (.agg true (tv (.mk v.k v.i v.j v.n [])))) G:=by
 refine (Aq (out:=.ret (.agg true [.int .i64 v.k,.int .i64 v.i,.int .i64 v.j,.int .i64 v.n,.nils])) mixed Tryz.func45 tr45 ?_).weaken (Mh _ _ _ _);simp only [go_sem,seval,vlV,Ah hk,hl,Ww];refine Cf 1 (Ak ?_);simp only [go_sem,seval,q_i]
end Go.Proofs.YtdpigpopcbjkmaaGreatDoor.Abs
namespace Go.Proofs.YtdpigpopcbjkmaaGreatDoor.Nrm
open Go Go.RowKit
theorem Ajp (cap:Array Value) (h:cap.size=2):∃x y,cap=#[x,y]:=by
 obtain⟨l⟩:=cap
 match l,h with
 |[x,y],_=>exact⟨x,y,rfl⟩
theorem idle_norm (cap:Array Value) (w:World) (h:cap.size=2):CallsD Tryz.prog 31 cap .returning w fun e u' w'=>u'=.returning/\e=.returned (.tuple #[])/\w'=w:=by
 obtain⟨x,y,rfl⟩:=Ajp cap h;refine callsD_of_wpS Tryz.func31 rfl fun c₀ cs hu=>?_
 apply wpS_seq;apply wpS_region;simp [wpOpsS,go_sem,recoverD,hu,Tryz.ntmps31,Exit.thenS];apply wpS_seq;apply wpS_region;simp [wpOpsS,go_sem,recoverD,hu,Exit.thenS];refine wpS_cond (t:=false) (by simp [Act.eval,Array.replicate]) ?_;simp only [Bool.false_eq_true,if_false];refine wpS_of_wp (wp_skip ?_);cases c₀;simp_all [bodyPostS,results,Tryz.results31]
theorem idle_head (cap:Array Value) (w:World) (h:cap.size=2):CallsD Tryz.prog 44 cap .returning w fun e u' w'=>u'=.returning/\e=.returned (.tuple #[])/\w'=w:=by
 obtain⟨x,y,rfl⟩:=Ajp cap h;refine callsD_of_wpS Tryz.func44 rfl fun c₀ cs hu=>?_
 apply wpS_seq;apply wpS_region;simp [wpOpsS,go_sem,recoverD,hu,Tryz.ntmps44,Exit.thenS];apply wpS_seq;apply wpS_region;simp [wpOpsS,go_sem,recoverD,hu,Exit.thenS];refine wpS_cond (t:=false) (by simp [Act.eval,Array.replicate]) ?_;simp only [Bool.false_eq_true,if_false];refine wpS_of_wp (wp_skip ?_);cases c₀;simp_all [bodyPostS,results,Tryz.results44]
theorem Be5 (w:World):(convert 25 3 (.float .f64 4607182418800017408)).run Tryz.prog w=.ok (.int .i64 1) w:=by
 kernel_rfl
theorem limit_one (w:World):Calls Tryz.prog 34 #[.float .f64 4607182418800017408] w fun e w'=>e=.returned (.int .i64 1)/\w'=w:=by
 have hc:=Be5
 go_enter Tryz.func34,Tryz.ntmps34
 go_wp2
 all_goals
  go_ret
  exact⟨rfl,rfl⟩
end Go.Proofs.YtdpigpopcbjkmaaGreatDoor.Nrm
namespace Go.Proofs.YtdpigpopcbjkmaaGreatDoor.Abs
open Go Go.RowKit Go.Proofs.YtdpigpopcbjkmaaGreatDoor
def zt:Tm:=.mk 0 0 0 0 []
theorem Aj5 (n:Int):Le (.tup [.agg true [.int .i64 0,.int .i64 0,.int .i64 0,.int .i64 0,.nils],.int .i64 n]) (.tup [.agg true (tv zt),.int .i64 n]):=by
 refine .tup _ _ (.cons _ _ _ _ ?_ (.cons _ _ _ _ (.cell _ _ (.refl _)) .nil));rw [zt,Am];exact .agg _ _ (.cons _ _ _ _ (.refl _) (.cons _ _ _ _ (.refl _) (.cons _ _ _ _ (.refl _) (.cons _ _ _ _ (.refl _) (.cons _ _ _ _ (.nils 5) .nil)))))
theorem l7 (cap:Array Value) (w:World):(invoke (.fn (.func 31) cap) #[]).run Tryz.prog w=.ok (.enter 31 cap) w:=by
 simp [go_sem]
theorem Apb (cap:Array Value) (w:World):(invoke (.fn (.func 44) cap) #[]).run Tryz.prog w=.ok (.enter 44 cap) w:=by
 simp [go_sem]
theorem Xt (t:Tm) (b:Nat):∀x∈[SV.agg true (tv t),.float .f64 b],NoG x:=by
 intro x hx;simp only [List.mem_cons,List.not_mem_nil,or_false] at hx;rcases hx with rfl|rfl
 ·exact Ws t true
 ·exact .float _ _
theorem Avs (k i j n e:Int):NoG (.tup [.agg true [.int .i64 k,.int .i64 i,.int .i64 j,.int .i64 n,.nils],.int .i64 e]):=by
 refine .tup _ (fun x hx=>?_);simp only [List.mem_cons,List.not_mem_nil,or_false] at hx;rcases hx with rfl|rfl
 ·refine .agg _ _ (fun y hy=>?_);simp only [List.mem_cons,List.not_mem_nil,or_false] at hy;rcases hy with rfl|rfl|rfl|rfl|rfl<;>first|exact .int _ _|exact .nils
 ·exact .int _ _
theorem Ab4 (t:Tm) (e:Int):NoG (.tup [.agg true (tv t),.int .i64 e]):=by
 refine .tup _ (fun x hx=>?_);simp only [List.mem_cons,List.not_mem_nil,or_false] at hx;rcases hx with rfl|rfl
 ·exact Ws t true
 ·exact .int _ _
theorem Bez (t:Tm) (ht:TOk t) (hp:Ch t=false) (b:Nat):Con 14 [.agg true (tv t),.float .f64 b] (.tup [.agg true (tv zt),.int .i64 1]):=by
 refine (Adi (r:=.tup [.agg true [.int .i64 0,.int .i64 0,.int .i64 0,.int .i64 0,.nils],.int .i64 1]) mixed Tryz.func14 tr14 l7 Nrm.idle_norm (Xt t b) (Avs _ _ _ _ _) ?_).weaken (Aj5 1);have hc:=Wy t ht;rw [show Ej t 2=false from hp] at hc;have h5:=Ag t;generalize tv t=r at *
 simp only [go_sem,seval,h5];refine Aa hc ?_;simp only [go_sem,seval]
theorem Ajv:Con 34 [.float .f64 4607182418800017408] (.int .i64 1):=by
 intro m w vs h1 h2 h3;obtain⟨v,rfl⟩:∃v,vs=[v]:=by
  match vs,h2 with
  |[v],_=>exact⟨v,rfl⟩
 have hv:=h3 0 v _ rfl rfl;cases hv;refine Calls.mono (Nrm.limit_one w) (fun e w' he=>?_);obtain⟨rfl,rfl⟩:=he;exact⟨_,m,rfl,.int _ _,⟨.refl m,rfl⟩,fun _ _ _=>rfl,h1,rfl,rfl,rfl,Nat.le_refl _,fun _ _=>rfl⟩
end Go.Proofs.YtdpigpopcbjkmaaGreatDoor.Abs
namespace Go.Proofs.YtdpigpopcbjkmaaGreatDoor.Nrm
open Go Go.RowKit
structure Bg (w w':World):Prop where
 os:w'.os=w.os
 tape:w'.tape=w.tape
 output:w'.output=w.output
 size:w.heap.size<=w'.heap.size
 old:∀k,k<w.heap.size->w'.heap[k]?=w.heap[k]?
theorem Be1 (w:World) (o:Obj):Bg w (w.alloc o):=⟨rfl,rfl,rfl,(by show w.heap.size<=(w.heap.push o).size;simp),fun k hk=>(by show (w.heap.push o)[k]?=w.heap[k]?;simp [Array.getElem?_push,Nat.ne_of_lt hk])⟩
theorem Be4 (w:World):(Instr.typeAssert (.iface 75 (.agg #[])) 20 75 true).run Tryz.prog w=.ok (.tuple #[.agg #[],.bool true]) w:=by
 kernel_rfl
theorem Bc6 (w:World):Calls Tryz.prog 32 #[.iface 75 (.agg #[])] w fun e w'=>e=.returned (.int .i64 6)/\Bg w w':=by
 have ha:=Be4
 go_enter Tryz.func32,Tryz.ntmps32
 go_wp2
 go_ret
 exact⟨rfl,Be1 _ _⟩
def outV:Value:=.iface 75 (.agg #[])
theorem Ais {w:World} {b:Nat} {c:Array Value} {e:TypeId} (h:w.heap[b]?=some (.cells c e (0,0))) (j:Nat):w.cell? ⟨b,j,none⟩=c[j]?:=by simp [World.cell?,h]
theorem Vf {w:World} {b:Nat} {c:Array Value} {e:TypeId} (h:w.heap[b]?=some (.cells c e (0,0))) (j:Nat):w.frozen? ⟨b,j,none⟩=false:=by simp [World.frozen?,h]
structure Rc (w w':World) (b4 b5:Nat):Prop where
 os:w'.os=w.os
 tape:w'.tape=w.tape
 output:w'.output=w.output
 size:w.heap.size<=w'.heap.size
 old:∀k,k<w.heap.size->k≠b4->k≠b5->w'.heap[k]?=w.heap[k]?
 c0:w'.cell? ⟨b4,0,none⟩=some (.int .i64 0)
 c1:w'.cell? ⟨b4,1,none⟩=some (.int .i64 0)
 c2:w'.cell? ⟨b4,2,none⟩=some (.int .i64 0)
 c3:w'.cell? ⟨b4,3,none⟩=some (.int .i64 0)
 c4:w'.cell? ⟨b4,4,none⟩=some (.slice none 0 0)
 c5:w'.cell? ⟨b5,0,none⟩=some (.int .i64 6)
theorem Ee {w:World} {b j b' j':Nat} {v:Value} (h:b≠b'\/j≠j'):(w.setCell ⟨b',j',none⟩ v).cell? ⟨b,j,none⟩=w.cell? ⟨b,j,none⟩:=by
 by_cases hb:b'=b
 ·subst hb;have hj:j'≠j:=fun e=>by rcases h with h|h;exact h rfl;exact h e.symm
  simp only [World.setCell,World.cell?,Array.getElem?_modify,if_true];cases w.heap[b']? with
  |none=>rfl
  |some o=>cases o<;>simp [Array.getElem?_setIfInBounds,hj]
 ·simp only [World.setCell,World.cell?,Array.getElem?_modify,hb,if_false]
theorem Va {w:World} {b j:Nat} {v u:Value} (h:w.cell? ⟨b,j,none⟩=some u):(w.setCell ⟨b,j,none⟩ v).cell? ⟨b,j,none⟩=some v:=by
 simp only [World.setCell,World.cell?,Array.getElem?_modify,if_true] at h |-;cases hq:w.heap[b]? with
 |none=>rw [hq] at h;cases h
 |some o=>
  rw [hq] at h;cases o<;>simp_all [Array.getElem?_setIfInBounds]
  all_goals (try (have:=(Array.getElem?_eq_some_iff.1 h).1;simp_all))
theorem heap_set {w:World} {b j k:Nat} {v:Value} (h:k≠b):(w.setCell ⟨b,j,none⟩ v).heap[k]?=w.heap[k]?:=RowKit.Below.heap_setCell _ _ _ _ h
theorem Aw4 (w:World) (a:Addr) (v:Value):(w.setCell a v).os=w.os:=rfl
theorem Bdx (w:World) (a:Addr) (v:Value):(w.setCell a v).tape=w.tape:=rfl
theorem Bbf (w:World) (a:Addr) (v:Value):(w.setCell a v).output=w.output:=rfl
theorem Ayf (w:World) (a:Addr) (v:Value):(w.setCell a v).heap.size=w.heap.size:=by simp [World.setCell]
structure F6 (w:World) (b4 b5:Nat) (v0 v1 v2 v3 v4 v5:Value):Prop where
 ne:b4≠b5
 c0:w.cell? ⟨b4,0,none⟩=some v0
 c1:w.cell? ⟨b4,1,none⟩=some v1
 c2:w.cell? ⟨b4,2,none⟩=some v2
 c3:w.cell? ⟨b4,3,none⟩=some v3
 c4:w.cell? ⟨b4,4,none⟩=some v4
 c5:w.cell? ⟨b5,0,none⟩=some v5
theorem F6.s0 {w:World} {b4 b5:Nat} {v0 v1 v2 v3 v4 v5:Value} (h:F6 w b4 b5 v0 v1 v2 v3 v4 v5) (x:Value):F6 (w.setCell ⟨b4,0,none⟩ x) b4 b5 x v1 v2 v3 v4 v5:=
 ⟨h.ne,Va h.c0,(Ee (.inr (show (1:Nat)≠0 by decide))).trans h.c1,(Ee (.inr (show (2:Nat)≠0 by decide))).trans h.c2,(Ee (.inr (show (3:Nat)≠0 by decide))).trans h.c3,(Ee (.inr (show (4:Nat)≠0 by decide))).trans h.c4,(Ee (.inl (Ne.symm h.ne))).trans h.c5⟩
theorem F6.s1 {w:World} {b4 b5:Nat} {v0 v1 v2 v3 v4 v5:Value} (h:F6 w b4 b5 v0 v1 v2 v3 v4 v5) (x:Value):F6 (w.setCell ⟨b4,1,none⟩ x) b4 b5 v0 x v2 v3 v4 v5:=
 ⟨h.ne,(Ee (.inr (show (0:Nat)≠1 by decide))).trans h.c0,Va h.c1,(Ee (.inr (show (2:Nat)≠1 by decide))).trans h.c2,(Ee (.inr (show (3:Nat)≠1 by decide))).trans h.c3,(Ee (.inr (show (4:Nat)≠1 by decide))).trans h.c4,(Ee (.inl (Ne.symm h.ne))).trans h.c5⟩
theorem F6.s2 {w:World} {b4 b5:Nat} {v0 v1 v2 v3 v4 v5:Value} (h:F6 w b4 b5 v0 v1 v2 v3 v4 v5) (x:Value):F6 (w.setCell ⟨b4,2,none⟩ x) b4 b5 v0 v1 x v3 v4 v5:=
 ⟨h.ne,(Ee (.inr (show (0:Nat)≠2 by decide))).trans h.c0,(Ee (.inr (show (1:Nat)≠2 by decide))).trans h.c1,Va h.c2,(Ee (.inr (show (3:Nat)≠2 by decide))).trans h.c3,(Ee (.inr (show (4:Nat)≠2 by decide))).trans h.c4,(Ee (.inl (Ne.symm h.ne))).trans h.c5⟩
theorem F6.s3 {w:World} {b4 b5:Nat} {v0 v1 v2 v3 v4 v5:Value} (h:F6 w b4 b5 v0 v1 v2 v3 v4 v5) (x:Value):F6 (w.setCell ⟨b4,3,none⟩ x) b4 b5 v0 v1 v2 x v4 v5:=
 ⟨h.ne,(Ee (.inr (show (0:Nat)≠3 by decide))).trans h.c0,(Ee (.inr (show (1:Nat)≠3 by decide))).trans h.c1,(Ee (.inr (show (2:Nat)≠3 by decide))).trans h.c2,Va h.c3,(Ee (.inr (show (4:Nat)≠3 by decide))).trans h.c4,(Ee (.inl (Ne.symm h.ne))).trans h.c5⟩
theorem F6.s4 {w:World} {b4 b5:Nat} {v0 v1 v2 v3 v4 v5:Value} (h:F6 w b4 b5 v0 v1 v2 v3 v4 v5) (x:Value):F6 (w.setCell ⟨b4,4,none⟩ x) b4 b5 v0 v1 v2 v3 x v5:=
 ⟨h.ne,(Ee (.inr (show (0:Nat)≠4 by decide))).trans h.c0,(Ee (.inr (show (1:Nat)≠4 by decide))).trans h.c1,(Ee (.inr (show (2:Nat)≠4 by decide))).trans h.c2,(Ee (.inr (show (3:Nat)≠4 by decide))).trans h.c3,Va h.c4,(Ee (.inl (Ne.symm h.ne))).trans h.c5⟩
theorem F6.s5 {w:World} {b4 b5:Nat} {v0 v1 v2 v3 v4 v5:Value} (h:F6 w b4 b5 v0 v1 v2 v3 v4 v5) (x:Value):F6 (w.setCell ⟨b5,0,none⟩ x) b4 b5 v0 v1 v2 v3 v4 x:=
 ⟨h.ne,(Ee (.inl h.ne)).trans h.c0,(Ee (.inl h.ne)).trans h.c1,(Ee (.inl h.ne)).trans h.c2,(Ee (.inl h.ne)).trans h.c3,(Ee (.inl h.ne)).trans h.c4,Va h.c5⟩
theorem Ao8 {w w':World} {b4 b5:Nat} (hb:Bg w w') (h:F6 w' b4 b5 (.int .i64 0) (.int .i64 0) (.int .i64 0) (.int .i64 0) (.slice none 0 0) (.int .i64 0)) :
  Rc w ((((((w'.setCell ⟨b4,0,none⟩ (.int .i64 0)).setCell ⟨b4,1,none⟩ (.int .i64 0)).setCell ⟨b4,2,none⟩ (.int .i64 0)).setCell ⟨b4,3,none⟩ (.int .i64 0)).setCell ⟨b4,4,none⟩ (.slice none 0 0)).setCell ⟨b5,0,none⟩ (.int .i64 6)) b4 b5:=by
 have f:=(((((h.s0 (.int .i64 0)).s1 (.int .i64 0)).s2 (.int .i64 0)).s3 (.int .i64 0)).s4 (.slice none 0 0)).s5 (.int .i64 6);refine⟨?_,?_,?_,?_,fun k hk h4 h5=>?_,f.c0,f.c1,f.c2,f.c3,f.c4,f.c5⟩
 ·simp only [Aw4];exact hb.os
 ·simp only [Bdx];exact hb.tape
 ·simp only [Bbf];exact hb.output
 ·simp only [Ayf];exact hb.size
 ·rw [heap_set h5,heap_set h4,heap_set h4,heap_set h4,heap_set h4,heap_set h4];exact hb.old k hk
theorem A8s (tmps:Array Value) (w:World):(results Tryz.f31 tmps).run Tryz.prog w=.ok (.tuple #[]) w:=by simp [results,Tryz.results31]
theorem rec_norm (w:World) (b4 b5:Nat) (c4 c5:Array Value) (e4 e5:TypeId) (h4:w.heap[b4]?=some (.cells c4 e4 (0,0))) (h5:w.heap[b5]?=some (.cells c5 e5 (0,0))) (k0:c4[0]?=some (.int .i64 0)) (k1:c4[1]?=some (.int .i64 0)) (k2:c4[2]?=some (.int .i64 0)) (k3:c4[3]?=some (.int .i64 0)) (k4:c4[4]?=some (.slice none 0 0)) (k5:c5[0]?=some (.int .i64 0)) (Aw:b4≠b5) :
  CallsD Tryz.prog 31 #[.pointer (some ⟨b4,0,none⟩),.pointer (some ⟨b5,0,none⟩)] (.panicking [{ v:=outV,recovered:=false }]) w fun e u' w'=>u'=.panicking [{ v:=outV,recovered:=true }]/\e=.returned (.tuple #[])/\Rc w w' b4 b5:=by
 refine callsD_of_wpS Tryz.func31 rfl fun c₀ cs hu=>?_
 apply wpS_seq;apply wpS_region;simp [wpOpsS,go_sem,recoverD,hu,Tryz.ntmps31,Exit.thenS];apply wpS_seq;apply wpS_region;simp [wpOpsS,go_sem,recoverD,hu,Exit.thenS,outV];refine wpS_cond (t:=true) (by simp [Act.eval,Array.replicate]) ?_;simp only [if_true];refine wpS_of_wp ?_;have ht:#[Value.pointer (some ⟨b4,0,none⟩),Value.pointer (some ⟨b5,0,none⟩)]++((((Array.replicate 7 undef).setIfInBounds 1 (Value.iface 75 (.agg #[]))).setIfInBounds 0 (Value.iface 75 (.agg #[]))).setIfInBounds 2 (Value.iface 75 (.agg #[]))).setIfInBounds 3 (Value.bool true)=#[Value.pointer (some ⟨b4,0,none⟩),Value.pointer (some ⟨b5,0,none⟩),Value.iface 75 (.agg #[]),Value.iface 75 (.agg #[]),Value.iface 75 (.agg #[]),Value.bool true,undef,undef,undef]:=rfl;rw [ht]
 go_wp2_with fail
 refine (Bc6 _).mono ?_;rintro e w' ⟨rfl,hb⟩;rw [<-hb.old b4 (lt_of_block h4)] at h4;rw [<-hb.old b5 (lt_of_block h5)] at h5;rw [<-Ais h4] at k0 k1 k2 k3 k4;rw [<-Ais h5] at k5;have f0:=Vf h4 0;have f1:=Vf h4 1;have f2:=Vf h4 2;have f3:=Vf h4 3;have f4:=Vf h4 4;have f5:=Vf h5 0
 go_wp2_with fail
 exact⟨rfl,_,rfl,_,A8s _ _,rfl,rfl,Ao8 hb ⟨Aw,k0,k1,k2,k3,k4,k5⟩⟩
theorem load_norm (tmps:Array Value) (w:World) (b4 b5:Nat) (p4:tmps.getD 4 undef=.pointer (some ⟨b4,0,none⟩)) (p5:tmps.getD 5 undef=.pointer (some ⟨b5,0,none⟩)) (k0:w.cell? ⟨b4,0,none⟩=some (.int .i64 0)) (k1:w.cell? ⟨b4,1,none⟩=some (.int .i64 0)) (k2:w.cell? ⟨b4,2,none⟩=some (.int .i64 0)) (k3:w.cell? ⟨b4,3,none⟩=some (.int .i64 0)) (k4:w.cell? ⟨b4,4,none⟩=some (.slice none 0 0)) (k5:w.cell? ⟨b5,0,none⟩=some (.int .i64 6)) :
  (results Tryz.f14 tmps).run Tryz.prog w=.ok (.tuple #[.agg #[.int .i64 0,.int .i64 0,.int .i64 0,.int .i64 0,.slice none 0 0],.int .i64 6]) w:=by
 rw [Array.getD_eq_getD_getElem?] at p4 p5;simp [results,Tryz.results14,p4,p5,go_sem,k0,k1,k2,k3,k4,k5]
end Go.Proofs.YtdpigpopcbjkmaaGreatDoor.Nrm
