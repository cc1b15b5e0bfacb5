import Derived.Test.YtgfehkhcmnfpaaaGreatDoorVEg
import Derived.Test.YtgfehkhcmnfpaaaGreatDoorVEv
import Derived.Test.YtgfehkhcmnfpaaaGreatDoorVQp
import Derived.Test.YtgfehkhcmnfpaaaGreatDoorVWg
import Derived.Test.YtgfehkhcmnfpaaaGreatDoorVAfC
import Derived.Test.YtgfehkhcmnfpaaaGreatDoorVAby
import Derived.Handed
set_option linter.all false
set_option maxRecDepth 20000
set_option maxHeartbeats 4000000
namespace Go.Proofs.YtgfehkhcmnfpaaaGreatDoor.Abs
open Go Go.RowKit Go.Proofs.YtgfehkhcmnfpaaaGreatDoor
structure SL(B b:Nat)(ks:List (Nat×Obj))(l:By)(w W:World):Prop where
 bd:Lib.IsBuilderF 53 5 B b (Lib.byteCells l) W
 mw:MW B W
 hB:B<=W.heap.size
 t:∀p∈ks,W.heap[p.1]?=some p.2/\p.1≠b/\∀c fz,p.2≠.cells c 5 fz
 be:Below B w W
section
variable{B b:Nat}{ks:List (Nat×Obj)}{l:By}{w W W':World}
def SL.keep(h:SL B b ks l w W)(k:Below W.heap.size W W'):SL B b ks l w W':=
 ⟨keepB h.bd k,h.mw.step (Hl k h.hB),q_ko h.hB k.size,fun p hp=>⟨(k.block _ (Array.getElem?_eq_some_iff.1 (h.t p hp).1).1).trans (h.t p hp).1,(h.t p hp).2⟩,h.be.trans (Hl k h.hB)⟩
def SL.put{l':By}(h:SL B b ks l w W)(h2:Lib.IsBuilderF 53 5 B b (Lib.byteCells l') W')(k:Below B W W')(o:Lib.OthersKept 5 (some b) W W'):SL B b ks l' w W':=
 ⟨h2,h.mw.step k,q_ko h.hB k.size,fun p hp=>⟨o p.1 _ (h.t p hp).1 (by intro e;exact (h.t p hp).2.1 (Option.some.inj e)) (h.t p hp).2.2,(h.t p hp).2⟩,h.be.trans k⟩
def SL.cell(h:SL B b ks l w W){p:Nat}{cs:Array Value}{T:Nat}(hp:(p,Obj.cells cs T (0,0))∈ks)(j:Nat):W.cell? ⟨p,j,none⟩=cs[j]?:=Lib.cell_of_heap (h.t _ hp).1 j
def SL.alloc(h:SL B b ks l w W){cs:Array Value}{T:Nat}(hT:T≠5):SL B b ((W.heap.size,.cells cs T (0,0))::ks) l w (W.alloc (.cells cs T)):=by
 have Aq:b<W.heap.size:=by rcases h.bd with h|h<;>exact h.lt
 have hk:=h.keep ((Below.refl W.heap.size W).alloc (q_ja _) (.cells cs T));refine⟨hk.bd,hk.mw,hk.hB,fun p hp=>?_,hk.be⟩;rcases q_kb.1 hp with rfl|hp
 ·exact⟨Array.getElem?_push_size,by dsimp only;omega,fun c fz e=>by cases e;exact hT rfl⟩
 ·exact hk.t p hp
end
def resL:List Value:=[.slice none 0 0,.bool false,.int .i64 2,.int .i64 1,.int .i64 1,.int .i64 0,.int .i64 0,.slice none 0 0,.int .i64 1,.int .i64 0,.int .i64 0,.int .i64 0,.slice none 0 0,.int .i64 0,.int .i64 0,.int .i64 0,.int .i64 0,.slice none 0 0,.int .i64 0,.int .i64 0,.int .i64 0,.int .i64 0,.slice none 0 0,.int .i64 0,.int .i64 0,.int .i64 0,.int .i64 0,.slice none 0 0]
def Abd:Value:=.agg resL.toArray
def Abe:XQ:=⟨[],false,2,Ca 1,Ca 0,zR,zR,zR⟩
def A1t:XOK Abe:=by
 have key:∀i,i<=1000->GT 0 1 3001 (Ca i):=fun i hi=>by
  obtain⟨h1,h2,h3,h4⟩:=Qp hi;refine⟨Afs h2 (.inl rfl),?_,h1,by omega⟩;rw[Ca,Da,if_neg (by decide),Oo];decide
 exact⟨fun k hk=>absurd hk (q_kq _),by decide,by decide,key 1 (by decide),key 0 (by decide),fun h=>by cases h⟩
inductive Reps(m:Mem):List Value->List SV->Prop
 |nil:Reps m [] []
 |cons {v x vs xs}:Rep m v x->Reps m vs xs->Reps m (v::vs) (x::xs)
def Reps.at_{m:Mem}{vs:List Value}{xs:List SV}(h:Reps m vs xs):vs.length=xs.length/\∀(j:Nat) v x,vs[j]?=some v->xs[j]?=some x->Rep m v x:=by
 induction h with
 |nil=>exact⟨rfl,fun j v x h=>by simp at h⟩
 |cons h _ ih=>
  refine⟨by simp[ih.1],fun j v x h1 h2=>?_⟩;cases j with
  |zero=>simp at h1 h2;subst h1;subst h2;exact h
  |succ j=>exact ih.2 j v x (by simpa using h1) (by simpa using h2)
def A1o{m:Mem}:Rep m Abd (.agg true (xqV Abe)):=by
 have h:Reps m resL (xqV Abe):=by
  unfold resL Abe xqV Ca z5;rw[Bp,Bp];simp only[q_kx,if_false,q_i];exact .cons .nils (.cons (.bool _) (.cons (.int _ _) (.cons (.int _ _) (.cons (.int _ _) (.cons (.int _ _) (.cons (.int _ _) (.cons (.dsl0 _ none 0) (.cons (.int _ _) (.cons (.int _ _) (.cons (.int _ _) (.cons (.int _ _) (.cons (.dsl0 _ none 0)
   (.cons (.int _ _) (.cons (.int _ _) (.cons (.int _ _) (.cons (.int _ _) (.cons .nils (.cons (.int _ _) (.cons (.int _ _) (.cons (.int _ _) (.cons (.int _ _) (.cons .nils (.cons (.int _ _) (.cons (.int _ _) (.cons (.int _ _) (.cons (.int _ _) (.cons .nils .nil)))))))))))))))))))))))))))
 obtain⟨h1,h2⟩:=h.at_;exact .agg resL _ (by intro v hv;simp only[resL,q_kb,q_kc,or_false] at hv;rcases hv with rfl|rfl|rfl|rfl|rfl|rfl|rfl|rfl|rfl|rfl|rfl|rfl|rfl|rfl|rfl|rfl|rfl|rfl|rfl|rfl|rfl|rfl|rfl|rfl|rfl|rfl|rfl|rfl<;>rfl) h1 h2
def Anj{B:Nat}{w:World}(hw:MW B w):Calls Tryz.prog 8 #[Abd] w fun e w'=>e=.returned (.bool true)/\Below w.heap.size w w':=by
 refine Calls.mono (Uw (Ahq A1t) hw [Abd] rfl (fun m j v x h1 h2=>?_)) (fun e w' h=>?_)
 ·match j,h1,h2 with
  |0,h1,h2=>cases h1;cases h2;exact A1o
  |j+1,h1,h2=>simp at h1
 ·obtain⟨⟨v,m',h1,h2⟩,h3⟩:=h;refine⟨?_,h3⟩;rw[h1];cases h2;rfl
structure RB(cs:Array Value):Prop where
 n:(Tryz.prog.info? 30).map (·.size)=some cs.size
 c0:cs[0]?=some (.slice none 0 0)
 c1:cs[1]?=some (.bool false)
 c2:cs[2]?=some (.int .i64 2)
 c3:cs[3]?=some (.int .i64 1)
 c4:cs[4]?=some (.int .i64 1)
 c5:cs[5]?=some (.int .i64 0)
 c6:cs[6]?=some (.int .i64 0)
 c7:cs[7]?=some (.slice none 0 0)
 c8:cs[8]?=some (.int .i64 1)
 c9:cs[9]?=some (.int .i64 0)
 c10:cs[10]?=some (.int .i64 0)
 c11:cs[11]?=some (.int .i64 0)
 c12:cs[12]?=some (.slice none 0 0)
def A0x{B:Nat}{w:World}(hw:MW B w):Calls Tryz.prog 32 #[.int .i64 2] w fun e w'=>e=.returned (.string ⟨#[50]⟩)/\Below w.heap.size w w':=by
 have h:=Al2 hw 2 (by decide);rw[show (Lib.itoa ((2:Nat):Int))=[50] by kernel_rfl] at h;exact h
def txt:Nat->By
 |0=>[40,116,101,114,109,32,40,41,32,50]
 |k+1=>txt k++([32]++La k)
def Anm{B:Nat}{w:World}(hw:MW B w):Calls Tryz.prog 33 #[.agg #[.int .i64 1,.int .i64 0,.int .i64 0,.int .i64 0,.slice none 0 0],.int .i64 0] w fun e w'=>e=.returned (.string ⟨(La 0).toArray⟩)/\Below w.heap.size w w':=Agl (i:=0) hw (by decide)
def Ann{B:Nat}{w:World}(hw:MW B w):Calls Tryz.prog 33 #[.agg #[.int .i64 1,.int .i64 1,.int .i64 0,.int .i64 0,.slice none 0 0],.int .i64 0] w fun e w'=>e=.returned (.string ⟨(La 1).toArray⟩)/\Below w.heap.size w w':=Agl (i:=1) hw (by decide)
def Zy(i:Nat)(hi:i<=1000):(La i).length<=30:=by
 have:=Aez i (by omega);unfold La;simp;omega
def Agb:∀k,k<=3->(txt k).length<=10+31*k:=by
 intro k
 induction k with
 |zero=>intro _;decide
 |succ k ih=>
  intro h;have:=ih (by omega);have:=Zy k (by omega);rw[txt,q_jr,q_jr,List.length_singleton];omega
def q0:(txt 0).length+(ByteArray.mk #[32]++ByteArray.mk (La 0).toArray).size<=140737488355328:=by
 have:=Zy 0 (by decide);have:=Agb 0 (by decide);rw[ByteArray.size_append];show _+(1+(La 0).toArray.size)<=_;simp;omega
def q1:(txt 1).length+(ByteArray.mk #[32]++ByteArray.mk (La 1).toArray).size<=140737488355328:=by
 have:=Zy 1 (by decide);have:=Agb 1 (by decide);rw[ByteArray.size_append];show _+(1+(La 1).toArray.size)<=_;simp;omega
def qz:(txt 2).length+(ByteArray.mk #[41,10]).size<=140737488355328:=by
 have:=Agb 2 (by decide);show _+2<=_;omega
def Anl{B:Nat}{w:World}(hw:MW B w)(cs:Array Value)(hcs:RB cs)(hR:∀{W:World},MW w.heap.size W->Calls Tryz.prog 8 #[.agg cs] W fun e w'=>e=.returned (.bool true)/\Below W.heap.size W w') :
  Calls Tryz.prog 11 #[.agg cs] w fun e w'=>e=.returned (.string ⟨(txt 2++[41,10]).toArray⟩)/\Below w.heap.size w w':=by
 have hw:=hw.here;have hb0:Below w.heap.size w (w.alloc (.cells cs 30)):=(Below.refl _ w).alloc (q_ja _) _;have h0:(w.alloc (.cells cs 30)).heap[w.heap.size]?=some (.cells cs 30 (0,0)):=Array.getElem?_push_size;have hw0:=hw.step hb0;have Ji:w.heap.size<=(w.alloc (.cells cs 30)).heap.size:=hb0.size
 go_enter Tryz.func11,Tryz.ntmps11
 iterate 16 (first|go_values|go_skip|go_guarded|go_step)
 refine wp_load_row 30 _ rfl w.heap.size rfl 30 cs (0,0) _ h0 Tryz.underlying30 rfl hcs.n ?_
 go_wp2_with (go_at_call 8;refine (hR hw0).mono ?_)
 generalize w.alloc (.cells cs 30)=w0 at *
 generalize Nz:w.heap.size=tb at *
 rintro e W1 ⟨rfl,k1⟩;have h1:=Pb h0 k1;have hw1:=hw0.step (Hl k1 Ji);have b1:=hb0.trans (Hl k1 Ji);have Nn:=q_ko Ji k1.size;have f2:=Lib.IsBuilderF.of (Lib.fresh_isBuilder 53 5 W1);have k2:Below W1.heap.size W1 (W1.alloc (.cells #[.pointer none,.slice none 0 0] 53)):=(Below.refl _ W1).alloc (q_ja _) _;have s2:SL W1.heap.size W1.heap.size [(tb,.cells cs 30 (0,0))] [] W1 (W1.alloc (.cells #[.pointer none,.slice none 0 0] 53)):=
  ⟨f2,hw1.here.step k2,k2.size,fun p hp=>by
   simp only[q_ki] at hp;subst hp;exact⟨Pb h1 k2,by have:=(Array.getElem?_eq_some_iff.1 h1).1;dsimp only;omega,fun c fz e=>by cases e⟩,k2⟩
 have q2:([]:By).length+(ByteArray.mk #[40,116,101,114,109,32,40]).size<=140737488355328:=by show 0+7<=_;omega
 go_wp2_with (go_at_call 29;refine (Um s2.bd q2 s2.hB).mono ?_)
 generalize W1.alloc (.cells #[.pointer none,.slice none 0 0] 53)=Wb at *
 generalize W1.heap.size=b at *
 rintro e W3 rfl b3 k3 o3;have s3:=s2.put b3 k3 o3;have d0:=(s3.cell (p:=tb) (q_ki.2 rfl) 0).trans hcs.c0;have d1:=(s3.cell (p:=tb) (q_ki.2 rfl) 1).trans hcs.c1;have d2:=(s3.cell (p:=tb) (q_ki.2 rfl) 2).trans hcs.c2;have d3:=(s3.cell (p:=tb) (q_ki.2 rfl) 3).trans hcs.c3;have d4:=(s3.cell (p:=tb) (q_ki.2 rfl) 4).trans hcs.c4;have d5:=(s3.cell (p:=tb) (q_ki.2 rfl) 5).trans hcs.c5;have d6:=(s3.cell (p:=tb) (q_ki.2 rfl) 6).trans hcs.c6;have d7:=(s3.cell (p:=tb) (q_ki.2 rfl) 7).trans hcs.c7;have d8:=(s3.cell (p:=tb) (q_ki.2 rfl) 8).trans hcs.c8;have d9:=(s3.cell (p:=tb) (q_ki.2 rfl) 9).trans hcs.c9;have d10:=(s3.cell (p:=tb) (q_ki.2 rfl) 10).trans hcs.c10;have d11:=(s3.cell (p:=tb) (q_ki.2 rfl) 11).trans hcs.c11;have d12:=(s3.cell (p:=tb) (q_ki.2 rfl) 12).trans hcs.c12;have s4:=s3.alloc (cs:=#[.int .i64 1,.int .i64 0,.int .i64 0,.int .i64 0,.slice none 0 0,.int .i64 1,.int .i64 1,.int .i64 0,.int .i64 0,.slice none 0 0]) (T:=25) (by decide);have e0:=(s4.cell (p:=tb) (List.mem_cons_of_mem _ (q_ki.2 rfl)) 0).trans hcs.c0;have e1:=(s4.cell (p:=tb) (List.mem_cons_of_mem _ (q_ki.2 rfl)) 1).trans hcs.c1;have e2:=(s4.cell (p:=tb) (List.mem_cons_of_mem _ (q_ki.2 rfl)) 2).trans hcs.c2
 go_wp2_with fail
 generalize W3.alloc (.cells #[.int .i64 1,.int .i64 0,.int .i64 0,.int .i64 0,.slice none 0 0,.int .i64 1,.int .i64 1,.int .i64 0,.int .i64 0,.slice none 0 0] 25)=W4 at *
 generalize W3.heap.size=lb at *
 clear d0 d1 d2 d3 d4 d5 d6 d7 d8 d9 d10 d11 d12
 go_loopw [36] (fun i wr=>i=.int .i64 0/\wr=W4) (fun _ _=>0)
 case atStart=>exact⟨rfl,rfl⟩
 case round=>
  obtain⟨rfl,rfl⟩:=hrel
  go_wp2_with (go_at_call 32;refine (A0x s4.mw).mono ?_)
  rintro e W5 ⟨rfl,k5⟩;have s5:=s4.keep k5;have q5:([]++(ByteArray.mk #[40,116,101,114,109,32,40]).data.toList:By).length+(ByteArray.mk #[41,32]++ByteArray.mk #[50]).size<=140737488355328:=by show 7+3<=_;omega
  go_wp2_with (go_at_call 29;refine (Um s5.bd q5 s5.hB).mono ?_)
  rintro e W6 ⟨rfl,b6,k6,o6⟩;have s6:=s5.put b6 k6 o6;have s6:SL b b _ (txt 0) W1 W6:=s6;clear s5 s4 s3 s2 b6 k6 o6 b3 k3 o3
  go_wp2_with fail
  go_loopw [62] (fun i wr=>∃k:Nat,k<=2/\i=.int .i64 k/\SL b b [(lb,.cells #[.int .i64 1,.int .i64 0,.int .i64 0,.int .i64 0,.slice none 0 0,.int .i64 1,.int .i64 1,.int .i64 0,.int .i64 0,.slice none 0 0] 25 (0,0)),(tb,.cells cs 30 (0,0))] (txt k) W1 wr) (fun i _=>2-(intOf i).toNat)
  case atStart=>exact⟨0,by decide,rfl,s6⟩
  case round=>
   obtain⟨k,hk,rfl,hs⟩:=hrel;have f0:=(hs.cell (p:=lb) (List.mem_cons_self ..) 0)
   have f1:=(hs.cell (p:=lb) (List.mem_cons_self ..) 1)
   have f2:=(hs.cell (p:=lb) (List.mem_cons_self ..) 2)
   have f3:=(hs.cell (p:=lb) (List.mem_cons_self ..) 3)
   have f4:=(hs.cell (p:=lb) (List.mem_cons_self ..) 4)
   have f5:=(hs.cell (p:=lb) (List.mem_cons_self ..) 5)
   have f6:=(hs.cell (p:=lb) (List.mem_cons_self ..) 6)
   have f7:=(hs.cell (p:=lb) (List.mem_cons_self ..) 7)
   have f8:=(hs.cell (p:=lb) (List.mem_cons_self ..) 8)
   have f9:=(hs.cell (p:=lb) (List.mem_cons_self ..) 9)
   obtain rfl|rfl|rfl:k=0\/k=1\/k=2:=by omega
   ·have ha:=hs.alloc (cs:=#[.int .i64 1,.int .i64 0,.int .i64 0,.int .i64 0,.slice none 0 0]) (T:=25) (by decide);have g0:=(ha.cell (p:=tb) (List.mem_cons_of_mem _ (List.mem_cons_of_mem _ (q_ki.2 rfl))) 0).trans hcs.c0
    go_wp2_with (go_at_call 33;refine (Anm ha.mw).mono ?_)
    generalize wr.alloc (.cells #[.int .i64 1,.int .i64 0,.int .i64 0,.int .i64 0,.slice none 0 0] 25)=wa at *
    rintro e V1 ⟨rfl,k7⟩;have t1:=ha.keep k7;have Dv:¬(9223372036854775807<1+(La 0).length):=by have:=Zy 0 (by decide);omega
    go_wp2_with (go_at_call 29;refine (Um t1.bd q0 t1.hB).mono ?_)
    rintro e V2 ⟨rfl,b8,k8,o8⟩;have t2:=t1.put b8 k8 o8
    go_wp2
    go_roundw
    case rel=>
     refine⟨1,by decide,rfl,?_⟩;exact⟨t2.bd,t2.mw,t2.hB,fun p hp=>t2.t p (List.mem_cons_of_mem _ hp),t2.be⟩
    case measure=>
     show 2-1<2-0;decide
   ·have ha:=hs.alloc (cs:=#[.int .i64 1,.int .i64 1,.int .i64 0,.int .i64 0,.slice none 0 0]) (T:=25) (by decide);have g0:=(ha.cell (p:=tb) (List.mem_cons_of_mem _ (List.mem_cons_of_mem _ (q_ki.2 rfl))) 0).trans hcs.c0
    go_wp2_with (go_at_call 33;refine (Ann ha.mw).mono ?_)
    generalize wr.alloc (.cells #[.int .i64 1,.int .i64 1,.int .i64 0,.int .i64 0,.slice none 0 0] 25)=wa at *
    rintro e V1 ⟨rfl,k7⟩;have t1:=ha.keep k7;have Dv:¬(9223372036854775807<1+(La 1).length):=by have:=Zy 1 (by decide);omega
    go_wp2_with (go_at_call 29;refine (Um t1.bd q1 t1.hB).mono ?_)
    rintro e V2 ⟨rfl,b8,k8,o8⟩;have t2:=t1.put b8 k8 o8
    go_wp2
    go_roundw
    case rel=>
     refine⟨2,by decide,rfl,?_⟩;exact⟨t2.bd,t2.mw,t2.hB,fun p hp=>t2.t p (List.mem_cons_of_mem _ hp),t2.be⟩
    case measure=>
     show 2-2<2-1;decide
   ·go_wp2_with (go_at_call 29;refine (Um hs.bd qz hs.hB).mono ?_)
    rintro e V1 rfl b7 k7 o7;have t1:=hs.put b7 k7 o7
    go_wp2_with (go_at_call 34;refine (Anh t1.bd t1.hB).mono ?_)
    rintro e V2 ⟨rfl,k8,_⟩
    go_wp2
    go_ret
    rw[Nz];exact⟨rfl,b1.trans (Hl (t1.be.trans k8) Nn)⟩
def resA:RB resL.toArray:=by
 refine⟨by kernel_rfl,?_,?_,?_,?_,?_,?_,?_,?_,?_,?_,?_,?_,?_⟩<;>rfl
def A1u{m:Mem}{v:Value}(h:Rep m v (.agg true [.nils,.bool false,.int .i64 2,.int .i64 1,.int .i64 1,.int .i64 0,.int .i64 0,.nils,.int .i64 1,.int .i64 0,.int .i64 0,.int .i64 0,.nils,.int .i64 0,.int .i64 0,.int .i64 0,.int .i64 0,.nils,.int .i64 0,.int .i64 0,.int .i64 0,.int .i64 0,.nils,.int .i64 0,.int .i64 0,.int .i64 0,.int .i64 0,.nils])):v=Abd:=by
 obtain⟨l,hl⟩:∃l,l=([.nils,.bool false,.int .i64 2,.int .i64 1,.int .i64 1,.int .i64 0,.int .i64 0,.nils,.int .i64 1,.int .i64 0,.int .i64 0,.int .i64 0,.nils,.int .i64 0,.int .i64 0,.int .i64 0,.int .i64 0,.nils,.int .i64 0,.int .i64 0,.int .i64 0,.int .i64 0,.nils,.int .i64 0,.int .i64 0,.int .i64 0,.int .i64 0,.nils]:List SV):=⟨_,rfl⟩
 rw[<-hl] at h;have key:∀(vs:List Value) (l:List SV) (us:List Value),vs.length=l.length->(∀(j:Nat) (v:Value) (x:SV),vs[j]?=some v->l[j]?=some x->Rep m v x)->l.length=us.length->(∀(j:Nat) (x:SV) (u:Value),l[j]?=some x->us[j]?=some u->(x=.nils/\u=.slice none 0 0)\/(∃k n,x=.int k n/\u=.int k n)\/∃b,x=.bool b/\u=.bool b)->vs=us:=by
  intro vs l us h1 h2 h3 h4;refine List.ext_getElem (by omega) (fun j g1 g2=>?_);have a:=h2 j vs[j] (l[j]'(by omega)) (q_f g1) (q_f (by omega));rcases h4 j (l[j]'(by omega)) us[j] (q_f (by omega)) (q_f g2) with⟨e1,e2⟩|⟨k,n,e1,e2⟩|⟨b,e1,e2⟩
  ·rw[e1] at a;rw[e2];generalize vs[j]=v at a |-;cases a;rfl
  ·rw[e1] at a;rw[e2];generalize vs[j]=v at a |-;cases a;rfl
  ·rw[e1] at a;rw[e2];generalize vs[j]=v at a |-;cases a;rfl
 cases h with
 |agg vs _ h0 hl2 hr=>
  have:=key vs l resL hl2 hr (by rw[hl];rfl) (by
   rw[hl];unfold resL;intro j x u h1 h2
   match j,h1,h2 with
   |0,h1,h2=>cases h1;cases h2;exact .inl ⟨rfl,rfl⟩
   |1,h1,h2=>cases h1;cases h2;exact .inr (.inr ⟨_,rfl,rfl⟩)
   |7,h1,h2=>cases h1;cases h2;exact .inl ⟨rfl,rfl⟩
   |12,h1,h2=>cases h1;cases h2;exact .inl ⟨rfl,rfl⟩
   |17,h1,h2=>cases h1;cases h2;exact .inl ⟨rfl,rfl⟩
   |22,h1,h2=>cases h1;cases h2;exact .inl ⟨rfl,rfl⟩
   |27,h1,h2=>cases h1;cases h2;exact .inl ⟨rfl,rfl⟩
   |2,h1,h2|3,h1,h2|4,h1,h2|5,h1,h2|6,h1,h2|8,h1,h2|9,h1,h2|10,h1,h2|11,h1,h2|13,h1,h2|14,h1,h2|15,h1,h2|16,h1,h2|18,h1,h2|19,h1,h2|20,h1,h2|21,h1,h2|23,h1,h2|24,h1,h2|25,h1,h2|26,h1,h2=>cases h1;cases h2;exact .inr (.inl ⟨_,_,rfl,rfl⟩)
   |j+28,h1,h2=>simp at h1)
  rw[this];rfl
def Apu:Con 11 [.agg true [.nils,.bool false,.int .i64 2,.int .i64 1,.int .i64 1,.int .i64 0,.int .i64 0,.nils,.int .i64 1,.int .i64 0,.int .i64 0,.int .i64 0,.nils,.int .i64 0,.int .i64 0,.int .i64 0,.int .i64 0,.nils,.int .i64 0,.int .i64 0,.int .i64 0,.int .i64 0,.nils,.int .i64 0,.int .i64 0,.int .i64 0,.int .i64 0,.nils]] (.str (bs (txt 2++[41,10]))):=by
 refine Acw (fun m w vs h1 h2 h3=>?_)
 match vs,h2 with
 |[a],_=>
  have ha:=A1u (h3 0 a _ rfl rfl);subst ha;exact Anl (B:=w.heap.size) ⟨m,w,rfl,h1,Below.refl _ _⟩ resL.toArray resA (fun hW=>Anj hW)
open Go Go.RowKit
inductive LeD:SV->SV->Prop
 |refl (v:SV):LeD v v
 |nils (sz:Nat):LeD .nils (.dsl sz [])
 |dsl (sz:Nat) (l r:GV):l.length=r.length->(∀x∈r,x.length=sz)->(∀(j:Nat) a b,l.flatten[j]?=some a->r.flatten[j]?=some b->LeD a b)->LeD (.dsl sz l) (.dsl sz r)
 |agg (l r:List SV):l.length=r.length->(∀(j:Nat) a b,l[j]?=some a->r[j]?=some b->LeD a b)->LeD (.agg true l) (.agg true r)
def LeD.rep{m:Mem}{a b:SV}(h:LeD a b):∀{v:Value},Rep m v a->Rep m v b:=by
 induction h with
 |refl v=>exact fun h=>h
 |nils sz=>intro v hr;cases hr;exact .dsl0 _ _ _
 |dsl sz l r hl hw _ ih=>
  intro v hr;cases hr with
  |dsl0 _ A cap=>
   have:r=[]:=q_ky.1 (by simpa using hl.symm);subst this;exact .dsl0 _ _ _
  |dsl _ _ cap b off vs h0 h1 h2 h3 h4 h5 h6=>
   have f1:l.flatten.length=l.length*sz:=Iu h3;have f2:r.flatten.length=r.length*sz:=Iu hw;rw[hl];refine .dsl sz r cap b off vs h0 (by omega) (by omega) hw (by rw[h4,f1,f2,hl]) h5 (fun j v y hv hy=>?_);have hj:j<l.flatten.length:=by
    have:=(q_jm.1 hv).1;omega
   exact ih j _ y (q_f hj) hy (h6 j v _ hv (q_f hj))
 |agg l r hl _ ih=>
  intro v hr;cases hr with
  |agg vs _ h0 h1 h2=>
   refine .agg vs r h0 (by omega) (fun j v y hv hy=>?_);have hj:j<l.length:=by
    have:=(q_jm.1 hv).1;omega
   exact ih j _ y (q_f hj) hy (h2 j v _ hv (q_f hj))
def LeDs(l r:List SV):Prop:=l.length=r.length/\∀(j:Nat) a b,l[j]?=some a->r[j]?=some b->LeD a b
def LeDs.nil:LeDs [] []:=⟨rfl,fun j a b h=>by simp at h⟩
def LeDs.cons{a b:SV}{l r:List SV}(h:LeD a b)(k:LeDs l r):LeDs (a::l) (b::r):=by
 refine⟨by simp[k.1],fun j x y hx hy=>?_⟩;cases j with
 |zero=>simp at hx hy;subst hx hy;exact h
 |succ j=>exact k.2 j x y (by simpa using hx) (by simpa using hy)
def LeDs.refl(l:List SV):LeDs l l:=⟨rfl,fun j a b h k=>by rw[h] at k;cases k;exact .refl _⟩
def LeDs.app{l r l' r':List SV}(h:LeDs l r)(k:LeDs l' r'):LeDs (l++l') (r++r'):=by
 refine⟨by simp[h.1,k.1],fun j x y hx hy=>?_⟩
 by_cases hj:j<l.length
 ·rw[q_jf hj] at hx;rw[q_jf (by rw[<-h.1];exact hj)] at hy;exact h.2 j x y hx hy
 ·rw[q_jj (by omega)] at hx;rw[q_jj (by rw[<-h.1];omega)] at hy;rw[<-h.1] at hy;exact k.2 _ x y hx hy
def LeD.agg'{l r:List SV}(h:LeDs l r):LeD (.agg true l) (.agg true r):=.agg _ _ h.1 h.2
inductive j8(sz:Nat):GV->GV->Prop
 |nil:j8 sz [] []
 |cons {a b:List SV} {l r:GV}:b.length=sz->LeDs a b->j8 sz l r->j8 sz (a::l) (b::r)
def LeD.rows{sz:Nat}{l r:GV}(h:j8 sz l r):LeD (.dsl sz l) (.dsl sz r):=by
 have key:l.length=r.length/\(∀x∈r,x.length=sz)/\LeDs l.flatten r.flatten:=by
  induction h with
  |nil=>exact⟨rfl,by simp,.nil⟩
  |cons hb h _ ih=>
   obtain⟨i1,i2,i3⟩:=ih;refine⟨by simp[i1],fun x hx=>?_,?_⟩
   ·rcases q_kb.1 hx with rfl|hx
    ·exact hb
    ·exact i2 x hx
   ·rw[List.flatten_cons,List.flatten_cons];exact h.app i3
 exact .dsl _ _ _ key.1 key.2.1 key.2.2.2
def Contract.argsD{P:Program}{f:Nat}{args args':List SV}{r:SV}(h:Contract P f args r)(hl:LeDs args' args):Contract P f args' r:=by
 intro m w vs h1 h2 h3;refine h m w vs h1 (by rw[h2,hl.1]) (fun j v y hv hy=>?_);have hj:j<args'.length:=by
  have:=(q_jm.1 hv).1;omega
 exact (hl.2 j _ y (q_f hj) hy).rep (h3 j v _ hv (q_f hj))
def Acu{i:Nat}(hi:i<=1000):Con 73 [.agg true (tv (Ca i))] (.agg true (tv (Ca i))):=by
 have o:=Qp hi;have h1:=q9 (Ca i) o.1;rw[o.2.1] at h1;have hc:=Ahd (Ca i) o.1;have h2:Con 119 [.agg true (tv (Ca i))] (.agg true (tv (Ca i))):=by
  unfold Ca at hc |-;refine Bt mixed Tryz.func119 tr119 ?_;rw[Bp] at hc |-
  repeat' first
  |simp only[go_sem,seval,q_i]
  |refine Ae hc ?_
 have h5:=Bz (Ca i);generalize tv (Ca i)=r at *
 refine Bt mixed Tryz.func73 tr73 ?_
 repeat' first
 |simp only[go_sem,seval,h5]
 |refine Ae h1 ?_
 |refine Ae h2 ?_
def Ark:Con 71 [.int .i64 0] (.int .i64 0):=by
 refine Bt mixed Tryz.func71 tr71 ?_
 repeat' first
 |simp only[go_sem,seval]
def Aqq:Con 69 [.nils] (.dsl 5 []):=by
 refine Bt mixed Tryz.func69 tr69 ?_
 repeat' first
 |simp only[go_sem,seval]
 |refine Ae Acl ?_
 |refine Ff 1 (Bk ?_)
def Aww{f:Nat}{args:List SV}{r:SV}(h:Con f args r)(G:GV):Dc f G args (.ret r) G:=fun m w vs h1 h2 h3 h4=>
 Calls.mono (Ahm h h1 h2 vs h3 h4) (fun e w' ⟨v,m',k1,k2,k3⟩=>⟨m',⟨v,k1,k2⟩,k3⟩)
def con_typed:Con 68 [.nils,.agg true (tv (Ca 0)),.agg true (tv (Ca 1)),.int .i64 2,.float .f64 4621256167635550208] (.int .i64 0):=by
 have c1:=Aqd (i:=0) (by omega);have s1:=Acu (i:=1) (by omega);have o1:=Qp (i:=1) (by omega);have c2:=fun G=>Aww (Ars (Ca 1) o1.1 (Amp (by omega))) G
 have h5:=Bz (Ca 0);have h6:=Bz (Ca 1);rw[show (0:Nat)+1=1 from rfl,show ((0+2:Nat):Int)=2 from rfl] at c1;refine Acx mixed Tryz.func68 tr68 (fun x hx=>?_) (.int _ _) ?_
 ·simp only[q_kb,q_kc,or_false] at hx;rcases hx with rfl|rfl|rfl|rfl|rfl
  ·exact .nils
  ·exact Qm _ true
  ·exact Qm _ true
  ·exact .int _ _
  ·exact .float _ _
 generalize tv (Ca 0)=r0 at *
 generalize tv (Ca 1)=r1 at *
 repeat' first
 |simp only[go_sem,seval,h5,h6]
 |refine Ae c1 ?_
 |refine Ae s1 ?_
 |refine Ai (c2 _) ?_
def Aaz{i:Nat}:LeD (.agg true [.int .i64 1,.int .i64 i,.int .i64 0,.int .i64 0,.nils]) (.agg true (tv (Ca i))):=by
 rw[show tv (Ca i)=[.int .i64 1,.int .i64 i,.int .i64 0,.int .i64 0,.dsl 5 []] by unfold Ca;rw[Bp];rfl];exact .agg' (.cons (.refl _) (.cons (.refl _) (.cons (.refl _) (.cons (.refl _) (.cons (.nils _) .nil)))))
def Wm:XQ×Option Nat->List SV
 |(x,none)=>[.agg true (xqV x),.int .i64 0,.int .i64 0]
 |(_,some p)=>[.agg true zx,.int .i64 2,.int .i64 p]
def Amb{x:XQ}:Wm (x,none)=[.agg true (xqV x),.int .i64 0,.int .i64 0]:=rfl
def Zt{x:XQ}{p:Nat}:Wm (x,some p)=[.agg true zx,.int .i64 2,.int .i64 p]:=rfl
def Aa3:∀x∈z5,NoG x:=fun x hx=>by
 simp only[z5,q_kb,q_kc,or_false] at hx;rcases hx with rfl|rfl|rfl|rfl|rfl
 ·exact .int _ _
 ·exact .int _ _
 ·exact .int _ _
 ·exact .int _ _
 ·exact .nils
def Azk(l:List (Tm×Nat)):NoG (Ir l):=by
 cases l with
 |nil=>exact .nils
 |cons e es=>
  refine .dsl _ _ (fun x hx=>?_);obtain⟨r,hr,hx⟩:=List.mem_flatten.1 hx;obtain⟨t,_,rfl⟩:=q_kz.1 hr;unfold Dg at hx;rcases q_ke.1 hx with h|h
  ·exact Ry _ x h
  ·simp only[q_ki] at h;subst h;exact .int _ _
def Azp(x:XQ):∀y∈xqV x,NoG y:=fun y hy=>by
 unfold xqV at hy;rcases q_kb.1 hy with rfl|hy
 ·exact Azk _
 rcases q_kb.1 hy with rfl|hy
 ·exact .bool _
 rcases q_kb.1 hy with rfl|hy
 ·exact .int _ _
 rcases q_ke.1 hy with h|hy
 ·exact Ry _ y h
 rcases q_ke.1 hy with h|hy
 ·exact Ry _ y h
 split at hy
 ·rcases q_ke.1 hy with h|hy
  ·exact Ry _ y h
  rcases q_ke.1 hy with h|hy
  ·exact Ry _ y h
  ·exact Ry _ y hy
 ·rcases q_ke.1 hy with h|hy
  ·exact Aa3 y h
  rcases q_ke.1 hy with h|hy
  ·exact Aa3 y h
  ·exact Aa3 y hy
def Azq:∀y∈zx,NoG y:=fun y hy=>by
 unfold zx at hy;rcases q_kb.1 hy with rfl|hy
 ·exact .nils
 rcases q_kb.1 hy with rfl|hy
 ·exact .bool _
 rcases q_kb.1 hy with rfl|hy
 ·exact .int _ _
 simp only[q_ke] at hy;rcases hy with h|h|h|h|h<;>exact Aa3 y h
def Azm(r:XQ×Option Nat):NoG (.tup (Wm r)):=by
 obtain⟨x,e⟩:=r;cases e with
 |none=>exact .tup _ (fun y hy=>by
   simp only[Wm,q_kb,q_kc,or_false] at hy;rcases hy with rfl|rfl|rfl
   ·exact .agg _ _ (Azp x)
   ·exact .int _ _
   ·exact .int _ _)
 |some p=>exact .tup _ (fun y hy=>by
   simp only[Wm,q_kb,q_kc,or_false] at hy;rcases hy with rfl|rfl|rfl
   ·exact .agg _ _ Azq
   ·exact .int _ _
   ·exact .int _ _)
def A5y(x:XQ):(xqV x).length=28:=by
 have h:=fun t=>Bz t
 unfold xqV;split<;>simp[h,z5]
def Aqy{tx:By}(hg:GoodP (qcR tx)):Con 14 [.str (bs tx)] (.tup (Wm (Zu tx))):=by
 have Za:(qcR tx).tx=tx:=by unfold qcR;split<;>rfl
 have hn:=hg.hn;have hm:=hg.m;rw[Za] at hm;have hL:=i7 tx;have c0:=o9 (l:=tx) (by omega);have hle:=(Mz tx).le.2.2;have Fs:∀x∈[SV.str (bs tx)],NoG x:=fun x hx=>by
  simp only[q_ki] at hx;subst hx;exact .str _
 refine Acx mixed Tryz.func14 tr14 Fs (Azm _) ?_;clear Fs;unfold Zu;dsimp only;have c1:=Il (c:=qcR tx) (s:=⟨0,false,0⟩) hn 1;have k1:(Co (qcR tx) ⟨0,false,0⟩ 1).2.k<=(qcR tx).L.length:=Jr (Nat.zero_le _);generalize Co (qcR tx) ⟨0,false,0⟩ 1=q1 at *
 obtain⟨w1,s1⟩:=q1;dsimp only at c1 k1 |-;have c2:=Awh hg k1;generalize Nj (qcR tx) s1=q2 at *
 obtain⟨x,s2⟩:=q2;dsimp only at c2 |-;have Eg:=A5y x;have c3:=Il (c:=qcR tx) (s:=s2) hn 2;generalize Co (qcR tx) s2 2=q3 at *
 obtain⟨w3,⟨k3,b3,a3⟩⟩:=q3;dsimp only at c3 |-;have cf:=Vj (c:=qcR tx) (s:=⟨k3,b3,a3⟩) hn k3;have Ho:b3=false->(Ey (qcR tx) ⟨k3,b3,a3⟩ k3).bad=true:=fun h=>by subst h;rfl
 have hq:∀p,(Ce tx).2=some p->(qcR tx).L=Do (tx.take p)/\(qcR tx).e=p:=fun p h=>by unfold qcR;rw[h];exact⟨rfl,rfl⟩
 have Vw:(Ce tx).2=none->(qcR tx).L=Do tx/\(qcR tx).e=tx.length:=fun h=>by unfold qcR;rw[h];exact⟨rfl,rfl⟩
 unfold Ch at c1 c2 c3 cf;rw[Za] at c1 c2 c3 cf;generalize Ey (qcR tx) ⟨k3,b3,a3⟩ k3=sf at *
 cases hx:(Ce tx).2 with
 |none=>
  obtain⟨e1,e2⟩:=Vw hx;rw[hx] at c0;rw[e1,e2] at c1 c2 c3 cf;rw[e1];dsimp only at c0 c1 c2 c3 cf |-;have hb:((Do tx).length<=140737488355328)=True:=by simp;omega
  cases b3
  ·have Ho:=Ho rfl
   by_cases hk:k3<(Do tx).length
   ·have Fh:(k3:Int)<((Do tx).length:Int):=by omega
    simp only[hk,eq_self,true_or,true_and,and_self,if_true,Ho,Zt]
    repeat' first
    |simp only[go_sem,seval,q_g,hb,Eg,zx,z5,q_kn,q_km,Fh,Ho,forall_const]
    |refine Ae c0 ?_
    |refine Ai c1 ?_
    |refine Ai c2 ?_
    |refine Ai c3 ?_
    |refine Ai cf ?_
   ·have Fh:¬(k3:Int)<((Do tx).length:Int):=by omega
    simp only[hk,Option.isSome_none,q_kx,or_self,and_false,if_false,Amb]
    repeat' first
    |simp only[go_sem,seval,q_g,hb,Eg,zx,z5,q_kn,q_km,Fh,forall_const]
    |refine Ae c0 ?_
    |refine Ai c1 ?_
    |refine Ai c2 ?_
    |refine Ai c3 ?_
  ·simp only[Bool.true_eq_false,false_and,if_false,if_true,Zt]
   repeat' first
   |simp only[go_sem,seval,q_g,hb,Eg,zx,z5,q_kn,q_km,forall_const]
   |refine Ae c0 ?_
   |refine Ai c1 ?_
   |refine Ai c2 ?_
   |refine Ai c3 ?_
 |some p=>
  obtain⟨e1,e2⟩:=hq p hx;obtain⟨hp,_⟩:=hle p hx;rw[hx] at c0;rw[e1,e2] at c1 c2 c3 cf;rw[e1];have hL2:=i7 (tx.take p);rw[q_kg] at hL2;have c02:=o9 (l:=tx.take p) (by rw[q_kg];omega);generalize (match (Ce (tx.take p)).2 with|none=>(0:Int)|some _=>2)=z1 at c02;generalize (match (Ce (tx.take p)).2 with|none=>(0:Int)|some p=>(p:Int))=z2 at c02;dsimp only at c0 c1 c2 c3 cf |-;generalize Do (tx.take p)=L2 at *
  have hb:((Do tx).length<=140737488355328)=True:=by simp;omega
  have Dy:(L2.length<=140737488355328)=True:=by simp;omega
  have g0:(0:Int)<=(p:Int):=by omega
  have g1:(p:Int)<=(tx.length:Int):=by omega
  have g2:p<=tx.length:=by omega
  cases b3
  ·have Ho:=Ho rfl
   by_cases hk:k3<L2.length
   ·have Fh:(k3:Int)<(L2.length:Int):=by omega
    simp only[hk,eq_self,true_or,true_and,and_self,if_true,Ho,Zt]
    repeat' first
    |simp only[go_sem,seval,q_g,hb,Eg,zx,z5,q_kn,q_km,Dy,g0,g1,g2,List.drop_zero,q_kr,Fh,Ho,forall_const]
    |refine Ae c0 ?_
    |refine Ae c02 ?_
    |refine Ai c1 ?_
    |refine Ai c2 ?_
    |refine Ai c3 ?_
    |refine Ai cf ?_
   ·have Fh:¬(k3:Int)<(L2.length:Int):=by omega
    simp only[Option.isSome_some,eq_self,or_true,true_and,and_self,if_true,Ho,Zt]
    repeat' first
    |simp only[go_sem,seval,q_g,hb,Eg,zx,z5,q_kn,q_km,Dy,g0,g1,g2,List.drop_zero,q_kr,Fh,Ho,forall_const]
    |refine Ae c0 ?_
    |refine Ae c02 ?_
    |refine Ai c1 ?_
    |refine Ai c2 ?_
    |refine Ai c3 ?_
    |refine Ai cf ?_
  ·simp only[Bool.true_eq_false,false_and,if_false,if_true,Zt]
   repeat' first
   |simp only[go_sem,seval,q_g,hb,Eg,zx,z5,q_kn,q_km,Dy,g0,g1,g2,List.drop_zero,q_kr,forall_const]
   |refine Ae c0 ?_
   |refine Ae c02 ?_
   |refine Ai c1 ?_
   |refine Ai c2 ?_
   |refine Ai c3 ?_
def wkS:By:=[40,116,101,114,109,32,40,41,32,50,32,40,115,111,114,116,32,48,41,32,40,115,111,114,116,32,49,41,41,32,59,32,110,111,116,101]
def wkX:XQ:=⟨[],false,2,Ca 1,Ca 0,zR,zR,zR⟩
def Anf:Zu wkS=(wkX,none):=by kernel_rfl
def A5r:txt 2++[41,10]=[40,116,101,114,109,32,40,41,32,50,32,40,115,111,114,116,32,48,41,32,40,115,111,114,116,32,49,41,41,10]:=by kernel_rfl
def A5p:XOK wkX:=A1s (tx:=wkS) (by decide) Anf
def wkV:List SV:=[.nils,.bool false,.int .i64 2,.int .i64 1,.int .i64 1,.int .i64 0,.int .i64 0,.nils,.int .i64 1,.int .i64 0,.int .i64 0,.int .i64 0,.nils,.int .i64 0,.int .i64 0,.int .i64 0,.int .i64 0,.nils,.int .i64 0,.int .i64 0,.int .i64 0,.int .i64 0,.nils,.int .i64 0,.int .i64 0,.int .i64 0,.int .i64 0,.nils]
def wkL:List SV:=[.nils,.bool false,.int .i64 2,.int .i64 1,.int .i64 1,.int .i64 0,.int .i64 0,.dsl 5 [],.int .i64 1,.int .i64 0,.int .i64 0,.int .i64 0,.dsl 5 [],.int .i64 0,.int .i64 0,.int .i64 0,.int .i64 0,.nils,.int .i64 0,.int .i64 0,.int .i64 0,.int .i64 0,.nils,.int .i64 0,.int .i64 0,.int .i64 0,.int .i64 0,.nils]
def wk_v:xqV wkX=wkL:=by
 unfold xqV wkX wkL Ca z5;dsimp only;rw[Bp,Bp];rfl
def Ax6:LeDs wkV wkL:=by
 unfold wkV wkL
 repeat' first
 |exact .nil
 |refine .cons (.refl _) ?_
 |refine .cons (.nils _) ?_
def Ahr:Con 8 [.agg true wkV] (.bool true):=by
 have h:=Ahq A5p;rw[wk_v] at h;exact h.argsD (.cons (.agg' Ax6) .nil)
def Arx{cl:Bool}{c:Nat}{cells:List SV}:cut cl 28 true 5 c cells=.agg cl ((cells.drop c).take 5):=by simp[cut]
attribute [go_sem] Arx
def Arm:Con 38 [.agg true wkV,.float .f64 4621256167635550208] (.int .i64 0):=by
 have r0:=Ahr;have m0:=Aqc;have t0:=con_typed.argsD (args':=[.nils,.agg true [.int .i64 1,.int .i64 0,.int .i64 0,.int .i64 0,.nils],.agg true [.int .i64 1,.int .i64 1,.int .i64 0,.int .i64 0,.nils],.int .i64 2,.float .f64 4621256167635550208])
  (.cons (.refl _) (.cons (Aaz (i:=0)) (.cons (Aaz (i:=1)) (.cons (.refl _) (.cons (.refl _) .nil)))))
 have s0:=(Acu (i:=0) (by omega)).argsD (args':=[.agg true [.int .i64 1,.int .i64 0,.int .i64 0,.int .i64 0,.nils]]) (.cons (Aaz (i:=0)) .nil);have s1:=(Acu (i:=1) (by omega)).argsD (args':=[.agg true [.int .i64 1,.int .i64 1,.int .i64 0,.int .i64 0,.nils]]) (.cons (Aaz (i:=1)) .nil);have k0:=Ap9;have h5:=Bz (Ca 0);have h6:=Bz (Ca 1);generalize tv (Ca 0)=u0 at *
 generalize tv (Ca 1)=u1 at *
 refine Bt mixed Tryz.func38 tr38 ?_;unfold wkV at *
 repeat' first
 |simp only[go_sem,seval,h5,h6]
 |refine Ae r0 ?_
 |refine Ae m0 ?_
 |refine Ae t0 ?_
 |refine Ae Aqq ?_
 |refine Ae Aqa ?_
 |refine Ae s0 ?_
 |refine Ae s1 ?_
 |refine Ae k0 ?_
 |refine Ae Ark ?_
def Arf(i:Int):Con 37 [.int .i64 i] (.agg true [.int .i64 1,.int .i64 i,.int .i64 0,.int .i64 0,.nils]):=by
 refine Bt mixed Tryz.func37 tr37 ?_
 repeat' first
 |simp only[go_sem,seval]
def Avh{x0 x1 x2 x3 x4 x5 x6 x7 x8 x9 x10 x11 x12 x13 x14 x15 x16 x17 x18 x19 x20 x21 x22 x23 x24 x25 x26 x27 a b c d e f g h i j:SV} :
  fill [x0,x1,x2,x3,x4,x5,x6,x7,x8,x9,x10,x11,x12,x13,x14,x15,x16,x17,x18,x19,x20,x21,x22,x23,x24,x25,x26,x27] [(8,5,.agg true [a,b,c,d,e]),(3,5,.agg true [f,g,h,i,j])] =
   [x0,x1,x2,f,g,h,i,j,a,b,c,d,e,x13,x14,x15,x16,x17,x18,x19,x20,x21,x22,x23,x24,x25,x26,x27]:=by
 simp[fill,Dm,cellsOf]
attribute [go_sem] Avh
def Arn:Con 13 [] (.bool true):=by
 have r0:=Ahr;have v0:=Arm;have x0:=Apu;rw[A5r] at x0;have q0:=Aqy (goodP wkS (by decide));rw[Anf,Amb,wk_v] at q0;unfold wkS at q0;have e1:(([40,116,101,114,109,32,40,41,32,50,32,40,115,111,114,116,32,48,41,32,40,115,111,114,116,32,49,41,41,10]:By)==[40,116,101,114,109,32,40,41,32,50,32,40,115,111,114,116,32,48,41,32,40,115,111,114,116,32,49,41,41,10])=true:=by decide
 refine Bt mixed Tryz.func13 tr13 ?_;unfold wkV at *
 unfold wkL at *
 repeat' first
 |simp only[go_sem,seval,e1]
 |refine Ae (Arf _) ?_
 |refine Ae r0 ?_
 |refine Ae v0 ?_
 |refine Ae x0 ?_
 |refine Ae q0 ?_
structure XG.any(x:XG):Prop where
 c:∀e∈x.ctx,e.ok
 i:fit x.i
 t:∀t∈[x.a,x.u,x.b,x.v,x.h],TOk t
def Aqo(x:XG):Con 9 [.agg true (xgV x)] (.agg true (xgV x)):=by
 obtain⟨C,q,i,⟨k1,i1,j1,n1,l1⟩,⟨k2,i2,j2,n2,l2⟩,⟨k3,i3,j3,n3,l3⟩,⟨k4,i4,j4,n4,l4⟩,⟨k5,i5,j5,n5,l5⟩⟩:=x;unfold xgV;rw[Bp,Bp,Bp,Bp,Bp];simp only[q_kn,q_km];generalize C.map En.v=rows;generalize l1.map tv=r1;generalize l2.map tv=r2;generalize l3.map tv=r3;generalize l4.map tv=r4;generalize l5.map tv=r5;refine Bt mixed Tryz.func9 tr9 ?_;simp only[go_sem,seval]
 all_goals first|done|simp[fill,Dm,cellsOf]
def Ap8(x:XG)(hx:x.any):∃z,Con 7 [.agg true (xgV x)] (.bool z)/\(z=false->x.ctx.length<=60/\(∀e∈x.ctx,Du e.a<=201/\Fx e.a<=60)/\∀t∈[x.a,x.u,x.b,x.v,x.h],Du t<=201/\Fx t<=120):=by
 obtain⟨z1,c1,h1⟩:=Ap6 60 (by decide) (by decide) x.ctx hx.c;obtain⟨z2,c2,h2⟩:=Ap7 120 (by decide) (by decide) [x.a,x.u,x.b,x.v,x.h] hx.t (by simp);simp only[q_h,q_i] at c2;refine⟨z1 || z2,?_,fun hz=>?_⟩
 ·obtain⟨hl,f0,f1,f2,fa,fu,fb,fv,fh⟩:=Un x;have ta:=Bz x.a;have tu:=Bz x.u;have tb:=Bz x.b;have tvv:=Bz x.v;have th:=Bz x.h;refine Bt mixed Tryz.func7 tr7 ?_;clear h1 h2 hx;generalize xgV x=r at *
  generalize tv x.a=ra at *
  generalize tv x.u=ru at *
  generalize tv x.b=rb at *
  generalize tv x.v=rv at *
  generalize tv x.h=rh at *
  generalize x.ctx.map En.v=rows at *
  cases z1 <;>
   (repeat' first
   |simp only[go_sem,seval,hl,f0,f1,f2,fa,fu,fb,fv,fh,ta,tu,tb,tvv,th,forall_const]
   |refine Ae c1 ?_
   |refine Ae c2 ?_
   |intro _)
 ·rw[Bool.or_eq_false_iff] at hz;obtain⟨g1,g2⟩:=h1 hz.1;refine⟨by omega,fun e he=>?_,fun t ht=>?_⟩
  ·have:=g2 e he;omega
  ·have:=h2 hz.2 t ht;omega
def Aqz(x:XG)(hx:x.any):Con 3 [.agg true (xgV x)] (.bool true):=by
 obtain⟨z,ch,hz⟩:=Ap8 x hx;have hl:=(Un x).1;refine Bt mixed Tryz.func3 tr3 ?_;cases z;rotate_left
 ·generalize xgV x=r at *
  repeat' first
  |simp only[go_sem,seval,hl]
  |refine Ae ch ?_
 ·obtain⟨g1,g2,g3⟩:=hz rfl;have hok:x.ok:=by
   have T:∀t∈[x.a,x.u,x.b,x.v,x.h],TOk t/\Du t<=1000:=fun t ht=>⟨hx.t t ht,by have:=(g3 t ht).1;omega⟩
   refine⟨⟨by omega,fun e he=>⟨hx.c e he,by have:=(g2 e he).1;omega⟩⟩,hx.i,T _ ?_,T _ ?_,T _ ?_,T _ ?_,T _ ?_⟩<;>simp
  have Qh:x.sm:=⟨⟨by omega,fun e he=>by have:=g2 e he;omega⟩,fun t ht=>by have:=g3 t ht;omega⟩
  have c1:=Aqo x;have c2:=Ahp hok;have c3:=Aho hok;have c4:=Apv hok Qh;have c5:=Aqp hok Qh;have w0:=Arn;clear hx hz g1 g2 g3 hok Qh;generalize Mg x=b at *
  generalize (if b then txR x else [])=T at *
  generalize xgV x=r at *
  repeat' first
  |simp only[go_sem,seval,hl,beq_self_eq_true]
  |refine Ae ch ?_
  |refine Ae c1 ?_
  |refine Ae c2 ?_
  |refine Ae c3 ?_
  |refine Ae c4 ?_
  |refine Ae c5 ?_
  |refine Ae w0 ?_
def A3h{w:World}(h:laidMetH Tryz.prog Rows.resultExactRow.laid w):∀b,Abp=some b->j9 b w:=by
 intro b hb;cases hb;rw[MakeChecks.laidMetH_plain _ _ _ (by kernel_rfl)] at h;obtain⟨ps,h,hnd,y6⟩:=h;obtain⟨g0,t0,cs0,f0,p0,q0,_,_,_,_,h,e0⟩:=h;obtain⟨g1,t1,cs1,f1,p1,q1,_,_,_,_,h,e1⟩:=h;obtain⟨g2,t2,cs2,f2,p2,q2,Im,Kt,Oz,Rl,_,e2⟩:=h;have hg:Tryz.prog.globalNamed "internal/strconv.uint64pow10"=some 0:=by kernel_rfl
 have e:=hg.symm.trans Im;cases e;have ht:(Tryz.prog.globals[0]?).map (·.type)=some 208:=by kernel_rfl
 have e:=ht.symm.trans Kt;cases e;unfold World.var? at Oz;rw[hg,Option.bind_some] at Oz;have hl:=A4s (l:=(List.range 20).map fun i=>((10 ^ i:Nat):Int)) (show Tryz.prog.underlying 208=some (.array 20 92) by kernel_rfl) (by kernel_rfl) (by kernel_rfl) (by kernel_rfl) (by simp) (by kernel_rfl) Rl;rw[List.map_map] at hl;split at Oz
 ·rename_i cs e f hh;cases Oz;refine⟨e,f,?_⟩;rw[hh];congr 2;exact Array.toList_inj.1 hl
 ·cases Oz
def A2y:Se Tryz.prog 59=some [25,3]:=by kernel_rfl
def Am8:Tryz.prog.underlying 3=some (.int .i64):=by kernel_rfl
def A4p{svs:List SV}(h:Gf Tryz.prog 59 svs):∃e:En,e.ok/\svs=e.v:=by
 obtain⟨parts,hl,hp,rfl⟩:=Am7 A2y h
 match parts,hl with
 |[p0,p1],_=>
  obtain⟨a,ha,rfl⟩:=(Wv tmT (hp 0 _ p0 rfl rfl)).1 rfl;obtain⟨i,rfl,hi⟩:=Wu Am8 (hp 1 _ p1 rfl rfl);exact⟨⟨a,i⟩,⟨ha,hi⟩,by simp[En.v,ev6]⟩
def A3a:Se Tryz.prog 27=some [22,4,3,25,25,25,25,25]:=by kernel_rfl
def A4q{svs:List SV}(h:Gf Tryz.prog 27 svs):∃x:XG,x.any/\svs=xgV x:=by
 obtain⟨parts,hl,hp,rfl⟩:=Am7 A3a h
 match parts,hl with
 |[p0,p1,p2,p3,p4,p5,p6,p7],_=>
  obtain⟨l,e,_,hc⟩:=A4r (e:=59) (by kernel_rfl) (hp 0 _ p0 rfl rfl);have e1:Tryz.prog.cellsOf 59=6:=by kernel_rfl
  rw[e1] at e;obtain⟨xs,rfl,hx⟩:=Ali (f:=En.v) (p:=En.ok) (l:=l) (fun r hr=>by obtain⟨e,h1,h2⟩:=A4p (hc r hr);exact⟨e,h1,h2⟩);obtain⟨q,rfl⟩:=A4o (by kernel_rfl) (hp 1 _ p1 rfl rfl);obtain⟨i,rfl,hi⟩:=Wu Am8 (hp 2 _ p2 rfl rfl);obtain⟨a,ha,rfl⟩:=(Wv tmT (hp 3 _ p3 rfl rfl)).1 rfl;obtain⟨u,hu,rfl⟩:=(Wv tmT (hp 4 _ p4 rfl rfl)).1 rfl;obtain⟨b,hb,rfl⟩:=(Wv tmT (hp 5 _ p5 rfl rfl)).1 rfl;obtain⟨v,hv,rfl⟩:=(Wv tmT (hp 6 _ p6 rfl rfl)).1 rfl;obtain⟨z,hz,rfl⟩:=(Wv tmT (hp 7 _ p7 rfl rfl)).1 rfl;subst e;refine⟨⟨xs,q,i,a,u,b,v,z⟩,⟨hx,hi,fun t ht=>?_⟩,by simp[xgV]⟩;simp only[q_kb,q_kc,or_false] at ht;rcases ht with rfl|rfl|rfl|rfl|rfl<;>assumption
def An6{x:SV}(h:Sh Tryz.prog 27 x):∃y:XG,x=.agg true (xgV y)/\y.any:=by
 cases h with
 |agg svs _ h2=>
  obtain⟨g,hg,rfl⟩:=A4q h2;exact⟨g,rfl,hg⟩
 |one x h1 _=>have e:Hb Tryz.prog 27=some true:=by kernel_rfl
              rw[e] at h1;cases h1
def Ax5{H:Type}{enc:TypeId×Value->H}{C:Checked}{os:Os}{f:FuncId}{fn:Func}{s:ChangeSpec}{S:List TypeId}{tb:TypeId}{apart fresh handsOn:Bool}{X:World->Array Value->Prop}(hT:∀w args,X w args->∀b,Abp=some b->(j9 b w))(hX:∀(w w':World) (args:Array Value),w.heap=w'.heap->X w args->X w' args)(own:ownKnob C.prog.godebug=none)(started:os.Started)(noInit:C.prog.inits.idxOf? f=none)
  (Km:C.prog.funcs[f]?=some fn) (Akk:s.vars=[])
  (witness:∃(w:World) (tape:Tape) (i:Input),w.os=os/\(w.forCall tape i).Shaped C.prog/\i.vars=[]/\Input.okWide C.prog (w.forCall tape i) .any w.heap.size f i /\
   ((s.pre enc C.prog fn [] apart (w.forCall tape i).memory i.args/\X (w.forCall tape i).memory i.args)/\sizedMet enc C.prog fn (OpenSpec.ofChange s) apart (w.forCall tape i).memory i.args)/\({}:Assume).holds C.prog (lone (Frame.enter C.prog f i.args .normal) [] (w.forCall tape i)))
  (hs:∀ds:List (DataW H),ds.length=fn.params.size->s.fn H ds={ results:=[.lit (.bool true)],args:=ds }) (Aeo:fn.resultTypes=#[tb]) (Nz:C.prog.underlying tb=some .bool)
  (hS:Vd C.prog S=true) (hpar:∀t∈fn.params.toList,t∈S) (hlaid:laidOutB C.prog=true) (hread:∀t∈fn.params.toList,C.prog.readableRec t=true/\t<C.prog.types.size)
  (law:∀args:List SV,Si C.prog fn.params.toList args->Contract C.prog f args (.bool true)) :
  ReturnsInHanded {} C os f .any (fun w args=>(s.pre enc C.prog fn [] apart w args/\X w args)/\sizedMet enc C.prog fn (OpenSpec.ofChange s) apart w args) (s.post enc C.prog fn apart fresh handsOn false):=by
 refine returnsInHanded_of_change_and (C:=C) (X:=X) hX own started noInit Km witness ?_;intro W base args ds gs before Fu hW _ Cf hx _;have hW':=hW;have Aq:∀x∈before,x.block<W.heap.size:=fun x hx=>hW'.lt x hx
 obtain⟨p,q,hA,hV,rfl,Sz,hnd⟩:=hW;rw[Akk] at hV;have hgs:gs=[]/\q=[]:=by
  cases gs with
  |nil=>exact⟨rfl,hV⟩
  |cons g gs=>exact hV.elim
 obtain⟨rfl,rfl⟩:=hgs;have Ku:∀n∈DataW.weightsEach C.prog fn.params.toList ds,n<=reachBytes:=by
  intro n hn;have:=List.all_eq_true.1 Cf n (A5o hn);simpa using this
 have hdl:ds.length=fn.params.size:=by
  have:=(trodAll_length hA).2;simpa using this
 obtain⟨xs,a1,a2,a3⟩:=An7 hS hpar (fun j t v ht hv=>Fu j t v (by simpa using ht) (by simpa using hv)) Ku hA;have hc:=law xs a1 (Na W) W args.toList ⟨fun b j v h=>h,fun b h=>h.elim,fun b hb=>by
  obtain⟨e,f,h⟩:=hT _ _ hx b hb;exact⟨⟨e,f,h⟩,Value.int .u64 ((10 ^ 0:Nat):Int),(show W.cell? ⟨b,0,none⟩=_ by unfold World.cell?;rw[h];rfl)⟩⟩ a2.symm a3
 refine Calls.mono hc (fun e W' he=>?_);obtain⟨v,m',rfl,k1,k2,k3,k4,k5,k6,k7,k8,k9⟩:=he;cases k1;have hb:Below W.heap.size W W':=⟨k5,k6,k7,k8,k9⟩
 refine⟨_,rfl,ds,[],p++[],[],p,[],hW',?_,?_,?_,hb.frame _,fun h=>by cases h⟩
 ·rw[q_k,hs ds hdl,Aeo];exact⟨[],[],⟨1,by simp[DataW.trod,Nz,Value.cells]⟩,rfl,rfl⟩
 ·rw[q_k,hs ds hdl];exact A4f hlaid hb hread (fun x hx=>Aq x (by simpa using hx)) hA
 ·rw[q_k,hs ds hdl,Akk];rfl
end Go.Proofs.YtgfehkhcmnfpaaaGreatDoor.Abs
