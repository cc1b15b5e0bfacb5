import Derived.Test.YtgfehkhcmnfpaaaGreatDoorVEr
import Derived.Test.YtgfehkhcmnfpaaaGreatDoorProg
import Derived.Test.YtgfehkhcmnfpaaaGreatDoorChecked
import Derived.WalkKit
import Derived.WalkLawsBesides
import Derived.Defers
import Derived.Recover
import Derived.Handy
import Derived.Test.YtgfehkhcmnfpaaaGreatDoorVDo
import Derived.KernelRfl
import Derived.Test.YtgfehkhcmnfpaaaGreatDoorVEv
import Derived.Test.YtgfehkhcmnfpaaaGreatDoorVOh
import Derived.Test.YtgfehkhcmnfpaaaGreatDoorVAfC
import Derived.Test.YtgfehkhcmnfpaaaGreatDoorVQf
import Derived.Test.YtgfehkhcmnfpaaaGreatDoorVEg
import Derived.Deep.RegionHeld3
set_option linter.all false
set_option maxRecDepth 20000
set_option maxHeartbeats 4000000
namespace Go.Proofs.YtgfehkhcmnfpaaaGreatDoor.Abs
open Go Go.RowKit Go.Proofs.YtgfehkhcmnfpaaaGreatDoor
def A3n{m:Mem}{cs:Array Value}(Vg:cs.size=28){w:World}(hm:Fk m w)(hR:∀B,Hw (MM m B) 8 [.agg cs] (.bool false)) :
  Calls Tryz.prog 11 #[.agg cs] w fun e w'=>e=.returned (.string ⟨#[]⟩)/\Below w.heap.size w w':=by
 have Ad2:(Tryz.prog.info? 30).map (·.size)=some cs.size:=by rw[Vg];kernel_rfl
 have hw:=MM.here hm;have hb0:Below w.heap.size w (w.alloc (.cells cs 30)):=(Below.refl _ w).alloc (q_ja _) _;have h0:(w.alloc (.cells cs 30)).heap[w.heap.size]?=some (.cells cs 30 (0,0)):=Array.getElem?_push_size;have hw0:MM m w.heap.size _:=Fv hw hb0;have Ji:w.heap.size<=(w.alloc (.cells cs 30)).heap.size:=hb0.size;have Cf:(w.alloc (.cells cs 30)).heap.size=w.heap.size+1:=by simp
 have hszH:=Lib.hid Cf;clear Cf;have r1:=hR _ _ hw0;clear hR
 go_enter Tryz.func11,Tryz.ntmps11
 iterate 16 (first|go_values|go_skip|go_guarded|go_step)
 refine wp_load_row 30 _ rfl w.heap.size rfl 30 cs (0,0) _ h0 Tryz.underlying30 rfl Ad2 ?_
 go_wp2_with (go_at_call 8;refine r1.mono ?_)
 generalize w.alloc (.cells cs 30)=w0 at *
 generalize Nz:w.heap.size=tb at *
 clear r1
 first|(rintro e W1 rfl k1)|(rintro e W1 ⟨rfl,k1⟩)
 have k1:Below w0.heap.size w0 W1:=by first|exact k1|(rw[hszH.out];exact k1)
 have b1:=hb0.trans (Hl k1 Ji)
 go_wp2
 go_ret
 exact⟨rfl,by rw[Nz];exact b1⟩
def Art(C:List En){x y:Nat}(h:x<=y):(Ih C x).length<=(Ih C y).length:=by
 induction y with
 |zero=>
  obtain rfl:x=0:=by omega
  exact q_ja _
 |succ y ih=>
  by_cases hx:x=y+1
  ·subst hx;exact q_ja _
  ·rw[Ih,q_jr];have:=ih (by omega);omega
def Amx{m:Mem}{t:Tm}{A:Option Addr}{c d:Nat}{w:Int}(ht:TOk t)(hr:Cz t w=true)(hf:Da t<=(d:Int))(hd:d<=1000)(hh:Du t<=1000)(hs:Fx t<=1000000)(h:Rep m (.slice A t.kids.length c) (.dsl 5 (t.kids.map tv)))(B:Nat) :
  Hw (MM m B) 33 [.agg #[.int .i64 t.k,.int .i64 t.i,.int .i64 t.j,.int .i64 t.n,.slice A t.kids.length c],.int .i64 d] (.string ⟨(txT t d).toArray⟩):=fun W hW=>by
 obtain⟨k,i,j,n,l⟩:=t;exact Ano ht hr hf hd hh hs hW.ok (Ama h)
def Apv{x:XG}(hx:x.ok)(hs:x.sm):Con 11 [.agg true (xgV x)] (.str (bs (if Mg x then txR x else []))):=by
 refine Acw (fun m w vs h1 h2 h3=>?_)
 match vs,h2 with
 |[a],_=>
  have ha:=h3 0 a _ rfl rfl;have cR:=Ahp hx;have tR:∀B,Hw (MM m B) 8 [a] (.bool (Mg x)):=fun B=>Wr cR [a] rfl (Wl ha) (fun _ _ h=>by cases h;rfl)
  obtain⟨cs,rfl,Vg,⟨AC,capC,c0,rC⟩,c1,c2,ca,cu,cb,cv,ch⟩:=A1r ha;cases hr:Mg x
  ·rw[hr] at tR;exact A3n Vg h1 tR
  ·rw[hr] at tR;rw[if_pos rfl];obtain⟨hC,hi,hO⟩:=Amd hr;have hb:=Zo hi;obtain⟨blk,off,hA,hE⟩:=A1l rC;have H:∀y,∃(As:Option Addr) (c:Nat),y<x.ctx.length->_:=fun y=>by
    by_cases hy:y<x.ctx.length
    ·obtain⟨As,c,h⟩:=hE y hy;exact⟨As,c,fun _=>h⟩
    ·exact⟨none,0,fun h=>absurd h hy⟩
   obtain⟨ea,hea⟩:=Classical.axiomOfChoice H;obtain⟨ec,hec⟩:=Classical.axiomOfChoice hea;have hcl:=Ah1 hs hC x.ctx.length (q_ja _);have hsc:=hs.c.1;have hok:∀t∈[x.a,x.u,x.b,x.v,x.h],TOk t/\Du t<=1000:=fun t ht=>by
    simp only[q_kb,q_kc,or_false] at ht;rcases ht with rfl|rfl|rfl|rfl|rfl
    ·exact hx.a
    ·exact hx.u
    ·exact hx.b
    ·exact hx.v
    ·exact hx.h
   have key:=A3o (m:=m) (pI:=Lib.itoa x.i) Vg c0 c1 c2 ca cu cb cv ch (blk:=blk) (off:=off)
    (ek:=fun y=>(x.ctx[y]?.getD default).a.k) (ei:=fun y=>(x.ctx[y]?.getD default).a.i) (ej:=fun y=>(x.ctx[y]?.getD default).a.j) (en:=fun y=>(x.ctx[y]?.getD default).a.n) (el:=fun y=>(x.ctx[y]?.getD default).i)
    (ea:=ea) (es:=fun y=>(x.ctx[y]?.getD default).a.kids.length) (ec:=ec) (pt:=fun y=>Lib.itoa (x.ctx[y]?.getD default).i) (wx:=fun y=>txT (x.ctx[y]?.getD default).a y) (part:=Ih x.ctx)
    hA (by omega) (fun y hy=>(hec y hy).2)
    (fun y hy B=>by
     obtain⟨e1,_,_⟩:=r7 hC hy;have:=Zo e1;exact Abu ⟨by omega,by omega⟩)
    (fun y hy B=>by
     obtain⟨e1,e2,e3⟩:=r7 hC hy;have hm:=Fg (d:=default) hy;obtain⟨hok,hhg⟩:=hx.c.2 _ hm;have Lv:=hs.c.2 _ hm;exact Amx hok.a e2 e3 (by omega) hhg (by omega) (hec y hy).1 B)
    rfl (fun y=>rfl) (fun y hy=>Art x.ctx hy) (by omega)
    (fun B=>Abu ⟨by omega,by omega⟩) (by have:=Mc x.i (by omega) (by omega);omega)
    (ol:=Sb x) rfl
    (fun t ht=>by
     obtain⟨w',g1,g2⟩:=hO t ht;have h4:=hok t (Aba ht);have h5:=hs.t t (Aba ht);have:=Ab0 g1 h5 (show x.ctx.length<=1000 by omega);exact⟨by omega,fun A n Cu B=>Amx h4.1 g1 g2 (by omega) h4.2 (by omega) Cu B⟩)
    h1 tR
   exact key
end Go.Proofs.YtgfehkhcmnfpaaaGreatDoor.Abs
namespace Go.Proofs.YtgfehkhcmnfpaaaGreatDoor.Nrm
open Go Go.RowKit
def Afn(cap:Array Value)(h:cap.size=1):∃x,cap=#[x]:=by
 obtain⟨l⟩:=cap
 match l,h with
 |[x],_=>exact⟨x,rfl⟩
def Am6(cap:Array Value)(h:cap.size=2):∃x y,cap=#[x,y]:=by
 obtain⟨l⟩:=cap
 match l,h with
 |[x,y],_=>exact⟨x,y,rfl⟩
def A3w(cap:Array Value)(h:cap.size=3):∃x y z,cap=#[x,y,z]:=by
 obtain⟨l⟩:=cap
 match l,h with
 |[x,y,z],_=>exact⟨x,y,z,rfl⟩
def idle_conv(cap:Array Value)(w:World)(h:cap.size=2):CallsD Tryz.prog 142 cap .returning w fun e u' w'=>u'=.returning/\e=.returned (.tuple #[])/\w'=w:=by
 obtain⟨x,y,rfl⟩:=Am6 cap h;refine callsD_of_wpS Tryz.func142 rfl fun c₀ cs hu=>?_
 apply wpS_seq;apply wpS_region;simp[wpOpsS,go_sem,recoverD,hu,Tryz.ntmps142,Exit.thenS];apply wpS_seq;apply wpS_region;simp[wpOpsS,go_sem,recoverD,hu,Exit.thenS];refine wpS_cond (t:=false) (by simp[Act.eval,Array.replicate]) ?_;simp only[Bool.false_eq_true,if_false];refine wpS_of_wp (wp_skip ?_);cases c₀;simp_all[bodyPostS,results,Tryz.results142]
def idle_quick(cap:Array Value)(w:World)(h:cap.size=2):CallsD Tryz.prog 204 cap .returning w fun e u' w'=>u'=.returning/\e=.returned (.tuple #[])/\w'=w:=by
 obtain⟨x,y,rfl⟩:=Am6 cap h;refine callsD_of_wpS Tryz.func204 rfl fun c₀ cs hu=>?_
 apply wpS_seq;apply wpS_region;simp[wpOpsS,go_sem,recoverD,hu,Tryz.ntmps204,Exit.thenS];apply wpS_seq;apply wpS_region;simp[wpOpsS,go_sem,recoverD,hu,Exit.thenS];refine wpS_cond (t:=false) (by simp[Act.eval,Array.replicate]) ?_;simp only[Bool.false_eq_true,if_false];refine wpS_of_wp (wp_skip ?_);cases c₀;simp_all[bodyPostS,results,Tryz.results204]
def idle_mctx(cap:Array Value)(w:World)(h:cap.size=1):CallsD Tryz.prog 103 cap .returning w fun e u' w'=>u'=.returning/\e=.returned (.tuple #[])/\w'=w:=by
 obtain⟨x,rfl⟩:=Afn cap h;refine callsD_of_wpS Tryz.func103 rfl fun c₀ cs hu=>?_
 apply wpS_seq;apply wpS_region;simp[wpOpsS,go_sem,recoverD,hu,Tryz.ntmps103,Exit.thenS];apply wpS_seq;apply wpS_region;simp[wpOpsS,go_sem,recoverD,hu,Exit.thenS];refine wpS_cond (t:=false) (by simp[Act.eval,Array.replicate]) ?_;simp only[Bool.false_eq_true,if_false];refine wpS_of_wp (wp_skip ?_);cases c₀;simp_all[bodyPostS,results,Tryz.results103]
def idle_mtype(cap:Array Value)(w:World)(h:cap.size=3):CallsD Tryz.prog 140 cap .returning w fun e u' w'=>u'=.returning/\e=.returned (.tuple #[])/\w'=w:=by
 obtain⟨x,y,z,rfl⟩:=A3w cap h;refine callsD_of_wpS Tryz.func140 rfl fun c₀ cs hu=>?_
 apply wpS_seq;apply wpS_region;simp[wpOpsS,go_sem,recoverD,hu,Tryz.ntmps140,Exit.thenS];apply wpS_seq;apply wpS_region;simp[wpOpsS,go_sem,recoverD,hu,Exit.thenS];refine wpS_cond (t:=false) (by simp[Act.eval,Array.replicate]) ?_;simp only[Bool.false_eq_true,if_false];refine wpS_of_wp (wp_skip ?_);cases c₀;simp_all[bodyPostS,results,Tryz.results140]
def idle_kctx(cap:Array Value)(w:World)(h:cap.size=1):CallsD Tryz.prog 109 cap .returning w fun e u' w'=>u'=.returning/\e=.returned (.tuple #[])/\w'=w:=by
 obtain⟨x,rfl⟩:=Afn cap h;refine callsD_of_wpS Tryz.func109 rfl fun c₀ cs hu=>?_
 apply wpS_seq;apply wpS_region;simp[wpOpsS,go_sem,recoverD,hu,Tryz.ntmps109,Exit.thenS];apply wpS_seq;apply wpS_region;simp[wpOpsS,go_sem,recoverD,hu,Exit.thenS];refine wpS_cond (t:=false) (by simp[Act.eval,Array.replicate]) ?_;simp only[Bool.false_eq_true,if_false];refine wpS_of_wp (wp_skip ?_);cases c₀;simp_all[bodyPostS,results,Tryz.results109]
def idle_kcheck(cap:Array Value)(w:World)(h:cap.size=1):CallsD Tryz.prog 116 cap .returning w fun e u' w'=>u'=.returning/\e=.returned (.tuple #[])/\w'=w:=by
 obtain⟨x,rfl⟩:=Afn cap h;refine callsD_of_wpS Tryz.func116 rfl fun c₀ cs hu=>?_
 apply wpS_seq;apply wpS_region;simp[wpOpsS,go_sem,recoverD,hu,Tryz.ntmps116,Exit.thenS];apply wpS_seq;apply wpS_region;simp[wpOpsS,go_sem,recoverD,hu,Exit.thenS];refine wpS_cond (t:=false) (by simp[Act.eval,Array.replicate]) ?_;simp only[Bool.false_eq_true,if_false];refine wpS_of_wp (wp_skip ?_);cases c₀;simp_all[bodyPostS,results,Tryz.results116]
def b9:Nat:=4621256167635550208
def Arr(w:World):(convert 66 3 (.float .f64 4621256167635550208)).run Tryz.prog w=.ok (.int .i64 9) w:=by kernel_rfl
def limit_9(w:World):Calls Tryz.prog 143 #[.float .f64 4621256167635550208] w fun e w'=>e=.returned (.int .i64 9)/\w'=w:=by
 have hc:=Arr w;have o1:FloatKind.f64.format.order 4621256167635550208 4621256167635550208=some .eq:=by decide +kernel
 have o2:FloatKind.f64.format.order 4621256167635550208 0=some .gt:=by decide +kernel
 have o3:FloatKind.f64.format.order 4621256167635550208 4741671816366391296=some .lt:=by decide +kernel
 go_enter Tryz.func143,Tryz.ntmps143
 go_wp2
 all_goals
  go_ret
  exact⟨rfl,rfl⟩
def so_true(w:World):Calls Tryz.prog 137 #[.bool true] w fun e w'=>e=.returned (.tuple #[])/\w'=w:=by
 go_enter Tryz.func137,Tryz.ntmps137
 go_wp2
 all_goals
  go_returns
  exact⟨rfl,rfl⟩
end Go.Proofs.YtgfehkhcmnfpaaaGreatDoor.Nrm
namespace Go.Proofs.YtgfehkhcmnfpaaaGreatDoor.Abs
open Go Go.RowKit
section
variable{P:Program}
def Aw6{f:Nat}{fn:Func}{c:Code}{ac:AC}{ars:List AR}{t gf k:Nat}{G G':GV}{args:List SV}{r:SV}(hm:P.follows .mixedOrders=true)(hf:P.funcs[f]?=some fn)(hb:fn.body=some c)(hD:TrD P t gf k c ac)(Hm:trR P fn.results.toList=some ars)
  (Te:∀(cap:Array Value) (w:World),(invoke (.fn (.func gf) cap) #[]).run P w=.ok (.enter gf cap) w) (Td:∀(cap:Array Value) (w:World),cap.size=k->CallsD P gf cap .returning w fun e u' w'=>u'=.returning/\e=.returned (.tuple #[])/\w'=w)
  (h:vc (Eh P fun _ _=>False) ac (rtG ars (.ret r) G') { sl:=args++List.replicate (fn.ntmps-args.length) .undef,hp:=[gOb G] }):HContract P f G args (.ret r) G':=by
 intro m w vs hmem hsat Bl Cu
 let own:Nat->Prop:=fun b=>∃i,m.d i=some b
 let E0:Env:={ m:=m,m0:=m,H:=fun _=>none,β:=fun _=>0,t:=fun _=>0 }
 have hW:W w own E0 w:=⟨rfl,rfl,rfl,q_ja _,fun _ _ _=>rfl,hmem.1,fun o ob ho=>(by cases ho),fun o o' ob ob' ho=>(by cases ho),fun _ _ _ _=>rfl,hmem.2.1,hmem.2.2.tb (fun b v hv hi=>by obtain⟨i,hi⟩:=hi;rw[hsat.free i b 0 hi] at hv;cases hv)⟩
 have hS:SR w own m (fun _=>True) [] E0 (some G) { sl:=args++List.replicate (fn.ntmps-args.length) .undef,hp:=[gOb G] } { tmps:=vs.toArray++Array.replicate (fn.ntmps-vs.toArray.size) undef,defers:=[] } w:=by
  refine⟨hW,⟨rfl,hsat,fun i b hi=>.inr ⟨i,hi⟩,fun i b o ob _ ho=>by cases ho⟩,fun o=>?_,by simp[Bl],Zl Bl Cu,rfl,rfl,.refl _,(fun h=>by cases h),fun _=>trivial⟩;cases o with
  |zero=>rfl
  |succ o=>rfl
 refine calls_of_wp_defers hf hb ?_
 -- what is there at an end
 have tail:∀(E:Env) (w':World),W w own E w'->GI w.heap.size own E w' G'->m.le E.m->E.m0=m->m.le E.m/\(∀b j,b<w.heap.size->E.m b j=m b j)/\Fk E.m w'/\GSat E.m w' G' /\
   (∀i b,E.m.d i=some b->m.d i=some b\/w.heap.size<=b)/\w'.os=w.os/\w'.tape=w.tape/\w'.output=w.output/\w.heap.size<=w'.heap.size/\∀k,k<w.heap.size->(∀i,m.d i≠some k)->w'.heap[k]?=w.heap[k]?:=by
  intro E w' hW hg hle hz;refine⟨hle,fun b j hb=>?_,⟨hW.mem,hW.pl,hW.tab⟩,hg.sat,fun i b hi=>?_,hW.os,hW.tape,hW.output,hW.size,fun k hk hn=>hW.block k hk (fun ⟨i,hi⟩=>hn i hi)⟩
  ·by_cases ho:own b
   ·obtain⟨i,hi⟩:=ho;rw[hsat.free i b j hi,hg.sat.free i b j (hle.d _ _ hi)]
   ·rw[hW.keep b j hb ho,hz]
  ·rcases hg.new i b hi with h|⟨i',Dk⟩
   ·exact .inr h
   ·have:=hg.sat.inj i i' b hi (hle.d _ _ Dk);subst this;exact .inl Dk
 have fin:∀(Df:List Deferred) (E:Env) (g:Option (GV)) (s:St) (a:Act) (w':World),SR w own m (fun _=>True) Df E g s a w'->Oj ars r G' s->∃v,(results fn a.tmps).run P w'=.ok v w'/\∃m',Qt m' (.returned v) (.ret r)/\m.le m'/\(∀b j,b<w.heap.size->m' b j=m b j)/\Fk m' w'/\GSat m' w' G' /\
   (∀i b,m'.d i=some b->m.d i=some b\/w.heap.size<=b)/\w'.os=w.os/\w'.tape=w.tape/\w'.output=w.output/\w.heap.size<=w'.heap.size/\∀k,k<w.heap.size->(∀i,m.d i≠some k)->w'.heap[k]?=w.heap[k]?:=by
  intro Df E g s a w' hS hr;unfold Oj at hr;split at hr;rotate_left
  ·exact hr.elim
  rename_i p svs hp' Kr;obtain⟨hp,Tk,hG⟩:=hr;obtain⟨us,E',k1,k2,k3,k4,k5⟩:=Wp fn.results.toList ars p svs hp' E s Hm Kr hp hS;have:=Ng (U:=fun _=>True) (s:={ s with hp:=hp' }) (fun o _=>k4.hp o) trivial k4.wo hG;subst this;exact⟨_,Wn k1,E'.m,⟨_,rfl,Wj Tk k2 k3⟩,tail E' w' k4.wo k4.gx k4.le k4.z⟩
 refine Ah5 (X:=fun _ _=>False) hm hD (fun _ _ _ _ _ _ h=>h.elim) (fun _ _ _ _ _ _ _ _ h=>h.elim) (fun e E g s a w' hS he=>?_) (fun cap Nr e E g s a w' hS he=>?_) E0 (some G) _ _ w hS h
 ·have hd:=hS.dfr;cases e with
  |normal=>simp only[AE.ex,bodyPostD,hd,Leaves];exact fin _ E g s a w' hS he
  |exit id=>exact he.elim
  |ret=>simp only[AE.ex,bodyPostD,hd,Leaves];exact fin _ E g s a w' hS he
 ·have hd:=hS.dfr;have key:Oj ars r G' s->Leaves P fn a.tmps (fun e w'=>∃m',Qt m' e (.ret r)/\m.le m'/\(∀b j,b<w.heap.size->m' b j=m b j)/\Fk m' w'/\GSat m' w' G' /\
   (∀i b,m'.d i=some b->m.d i=some b\/w.heap.size<=b)/\w'.os=w.os/\w'.tape=w.tape/\w'.output=w.output/\w.heap.size<=w'.heap.size/\∀k,k<w.heap.size->(∀i,m.d i≠some k)->w'.heap[k]?=w.heap[k]?) [Va gf cap] .returning w':=by
   intro he;refine leaves_cons (f:=gf) (args:=cap) (by simp) (Te cap w') ?_;refine (Td cap w' Nr).mono ?_;rintro e u' w'' ⟨rfl,rfl,rfl⟩;exact fin _ E g s a w'' hS he
  cases e with
  |normal=>simp only[AE.ex,bodyPostD,hd];exact key he
  |exit id=>exact he.elim
  |ret=>simp only[AE.ex,bodyPostD,hd];exact key he
def Ana(C:CT)(f:AF)(G:GV)(args:List SV)(r:SV)(G':GV):Prop:=vc C f.body (rtG f.res (.ret r) G') ⟨args++List.replicate (f.ntmps-args.length) .undef,[gOb G]⟩
def As9{C:CT}{b:AC}{n:Nat}{res:List AR}{G G':GV}{args:List SV}{r:SV}:Ana C { ntmps:=n,res:=res,body:=b } G args r G'=vc C b (rtG res (.ret r) G') ⟨args++List.replicate (n-args.length) .undef,[gOb G]⟩:=q_z
attribute [go_sem] As9
def Aw7{f:Nat}{fn:Func}{af:AF}{t gf k:Nat}{G G':GV}{args:List SV}{r:SV}(hm:P.follows .mixedOrders=true)(hf:P.funcs[f]?=some fn)(htr:Pf P fn=some (af,t,gf,k))
  (Te:∀(cap:Array Value) (w:World),(invoke (.fn (.func gf) cap) #[]).run P w=.ok (.enter gf cap) w) (Td:∀(cap:Array Value) (w:World),cap.size=k->CallsD P gf cap .returning w fun e u' w'=>u'=.returning/\e=.returned (.tuple #[])/\w'=w)
  (h:Ana (Eh P fun _ _=>False) af G args r G'):HContract P f G args (.ret r) G':=by
 unfold Pf at htr;split at htr;rotate_left
 ·cases htr
 rename_i c hb;split at htr;rotate_left
 ·cases htr
 rename_i ars Hm;simp only[q_e] at htr;obtain⟨⟨ac,q⟩,hq,Qe⟩:=htr;cases Qe;exact Aw6 hm hf hb (Am4 hq) Hm Te Td h
end
open Go Go.Proofs Go.Proofs.YtgfehkhcmnfpaaaGreatDoor
def af107:AF:=⟨28,[(.cell 6 false 1),(.cell 7 false 1)],(Ad [oP 3 (.box (.t 0)),oP 4 (.box (.t 1)),oP 6 (.new [(.bool false)]),oP 7 (.new [(iS 0)])] (.seq (Ad [oP 9 (Ao 5 3),oP 10 (.call 23 [(.t 9)]),oP 11 (.un .not (.t 10)),Ac 12 11,oG 13 12 false 0 (Ao 5 4),oG 14 12 false 0 (.call 23 [(.t 13)]),oG 15 12 false 0 (.un .not (.t 14)),oP 16 (Cx 12 15)] (Ak 16 (Ad [oN (.store 1 (.t 6) (cB false)),oN (.store 1 (.t 7) (cI 1))] .ret) .skip)) (Ad [oP 17 (.mv (cB true)),oN (.un .not (.t 17)),oP 17 (.mv (.c .J))] (Ad [Ac 18 2,oP 19 (.call 143 [(.t 18)]),Ac 8 19] (.seq (.cut (.reg [Ac 20 8,⟨(some 21),(.hcall 144 [(.t 20)]),none,1,true,[]⟩,⟨(some 22),(Ao 5 3),none,2,false,[1]⟩,⟨(some 23),(.hcall 114 [(.t 22),(.c .nilp)]),none,3,true,[]⟩,⟨(some 24),(Ao 5 4),none,4,false,[1,3]⟩,oI 25 5 (.hcall 114 [(.t 24),(.c .nilp)]),oI 26 6 (mT 8)] true) (.cut (Bo [⟨(some 27),(.hcall 145 [(.t 21),(.t 23),(.t 25),(cI 0),(.t 26)]),none,7,false,[7]⟩]) (.reg [oJ 8 (Bn 1 6 27),oJ 9 (.store 1 (.t 7) (cI 0))] true))) .ret)))))⟩
def tr107:Pf Tryz.prog Tryz.f107=some (af107,17,142,2):=by kernel_rfl
attribute [go_sem] af107
def af174:AF:=⟨21,[(.cell 10 false 1),(.cell 11 false 1)],(Ad [oP 10 (.new [(.bool false)]),oP 11 (.new [(.bool false)])] (Ad [oP 12 (.mv (cB true)),oN (.un .not (.t 12)),oP 12 (.mv (.c .J))] (Ad [Ac 13 0,Ac 14 4,oP 15 (.hcall 175 [(.t 13),(.t 14)])] (Ad [Ac 16 0,Ac 17 1,Ac 18 2,Ac 19 3,oP 20 (.hcall 205 [(.t 16),(.t 17),(.t 18),(.t 19),(cB true)]),oN (Bn 1 10 20),oN (.store 1 (.t 11) (cB true))] .ret))))⟩
def tr174:Pf Tryz.prog Tryz.f174=some (af174,12,204,2):=by kernel_rfl
attribute [go_sem] af174
def af205:AF:=⟨62,[(.t 10)],(Ad [oP 10 (.mv (cB false))] (Ad [Ac 11 0,oP 12 (.hcall 206 [(.t 11)])] (.seq (.seq (.cut (.reg [Ac 13 1,oI 14 1 (mT 2)] true) (.cut (Bo [oI 15 2 (.bin 2 .eql (.t 13) (.t 14))]) (.cut (.reg [oI 16 3 (mT 15),oG 17 16 false 4 (mT 1),oG 18 16 false 5 (At 17),oG 19 16 false 6 (Af 6 18),oG 20 16 false 7 (Ag 19),oG 21 16 false 8 (.un .not (.t 20)),oG 22 16 false 9 (mT 21),oG 23 22 true 10 (mT 2),oG 24 22 true 11 (At 23),oG 25 22 true 12 (Af 6 24),oG 26 22 true 13 (Ag 25),oG 27 22 true 14 (.un .not (.t 26)),oG 28 16 false 15 (Bv 22 27),oG 29 16 false 16 (mT 28),oG 30 29 true 17 (mT 1),oG 31 29 true 18 (At 30),oG 32 29 true 19 (Af 5 31),oG 33 29 true 20 (Ag 32),oG 34 29 true 21 (mT 2),oG 35 29 true 22 (At 34),oG 36 29 true 23 (Af 5 35),oG 37 29 true 24 (Ag 36)] true) (.cut (Bo [oG 38 29 true 25 (.bin 2 .eql (.t 33) (.t 37))]) (.reg [oG 39 16 false 26 (Bv 29 38),oG 40 16 false 27 (mT 39),oG 41 40 true 28 (mT 1),oG 42 40 true 29 (At 41),oG 43 40 true 30 (Af 0 42),oG 44 40 true 31 (Ao 5 43),oG 45 40 true 32 (mT 2),oG 46 40 true 33 (At 45),oG 47 40 true 34 (Af 0 46),oG 48 40 true 35 (Ao 5 47),oG 49 40 true 36 (.call 22 [(.t 44),(.t 48)]),oG 50 16 false 37 (Bv 40 49),oI 51 38 (Cx 16 50)] true))))) (Ak 51 (Ad [oP 10 (.mv (cB true))] .ret) .skip)) (Ad [Ac 52 0,Ac 53 0,Ac 54 1,oP 55 (.hcall 201 [(.t 53),(.t 54)]),Ac 56 0,Ac 57 2,oP 58 (.hcall 201 [(.t 56),(.t 57)]),Ac 59 3,Ac 60 4,oP 61 (.hcall 226 [(.t 52),(.t 55),(.t 58),(.t 59),(.t 60)]),Ac 10 61] .ret))))⟩
def tr205:trF Tryz.prog Tryz.f205=some af205:=by kernel_rfl
attribute [go_sem] af205
def af145:AF:=⟨39,[(.t 10)],(Ad [oP 10 (.mv (cB false))] (Ad [Ac 15 0,Ac 16 1,Ac 17 2,Ac 18 3,Ac 19 4,oP 20 (.mnx false (.t 19) (cI 300000)),oP 21 (.hcall 174 [(.t 15),(.t 16),(.t 17),(.t 18),(.t 20)]),Ac 14 21,oP 22 (.ext (.t 14) 0),oP 23 (.ext (.t 14) 1),Ac 11 22,Ac 12 23] (.seq (Ad [Ac 24 12] (Ak 24 (Ad [Ac 25 11,Ac 10 25] .ret) .skip)) (Ad [Ac 26 0,Ac 27 4,oP 28 (.hcall 175 [(.t 26),(.t 27)])] (Ad [Ac 29 0,Ac 30 1,Ac 31 3,oP 32 (.hcall 176 [(.t 29),(.t 30),(.t 31)]),oP 13 Fe,oN (Bn 5 13 32)] (Cs [⟨(some 33),(Ao 5 13),none,0,true,[]⟩,oI 34 1 (mT 0),oI 35 2 (mT 2),oI 36 3 (mT 3),⟨(some 37),(.hcall 176 [(.t 34),(.t 35),(.t 36)]),none,4,false,[0,4]⟩,oI 38 5 (.call 177 [(.t 33),(.t 37)]),oI 10 6 (mT 38)] .ret))))))⟩
def tr145:trF Tryz.prog Tryz.f145=some af145:=by kernel_rfl
attribute [go_sem] af145
def a202_24:AC:=.blk 1 (.seq (Ad [Ac 7 1,oP 8 (At 7),oP 9 (Af 0 8),oP 10 (Ag 9),oP 11 (Al 10 23)] (Ak 11 (.seq (Cs [Ac 12 0,oI 13 1 (mT 1),oI 14 2 (At 13),oI 15 3 (Af 3 14),oI 16 4 (Ag 15),oI 17 5 (mT 1),oI 18 6 (At 17),oI 19 7 (Af 1 18),oI 20 8 (Ag 19),oI 21 9 (mT 1),oI 22 10 (At 21),oI 23 11 (Af 2 22),oI 24 12 (Ag 23),⟨(some 25),(.hcall 222 [(.t 12),(.t 16),(.t 20),(.t 24)]),none,13,false,[13]⟩,oI 5 14 (mT 25)] (Ad [Ac 26 5,oP 27 (.bin 2 .neq (.t 26) (.c .nilp)),Ac 28 27,oG 29 28 true 0 (mT 5),oG 30 28 true 0 (At 29),oG 31 28 true 0 (Af 12 30),oG 32 28 true 0 (Ag 31),oP 33 (Bv 28 32)] (Ak 33 (Ad [Ac 34 1,oP 35 (At 34),oP 36 (Af 3 35),oP 37 (Ag 36),Ac 4 37] .ret) .skip))) (Ad [oP 4 (.mv (cI 0))] .ret)) .skip)) (Ad [Ac 38 1,oP 39 (At 38),oP 40 (Af 0 39),oP 41 (Ag 40),oP 42 (.call 223 [(.t 41)]),Ac 6 42] (.seq (Ad [Ac 43 6,oP 44 (Bi .lss 43 0)] (Ak 44 (Ad [oP 4 (.mv (cI 0))] .ret) .skip)) (Bo [Ac 45 1,oP 46 (At 45),oP 47 (Af 5 46),oP 48 (Ag 47),Ac 49 6,oP 50 (.iad 1 (.t 48) (.t 49)),oP 51 (Ag 50),oP 52 (At 51),oP 53 (Af 7 52),oP 54 (Ag 53),Ac 1 54]))))
def af202:AF:=⟨55,[(.t 4)],(Ad [oP 4 (.mv (cI 0))] (.blk 0 (.loop a202_24)))⟩
def tr202:trF Tryz.prog Tryz.f202=some af202:=by kernel_rfl
attribute [go_sem] af202 a202_24
def a221_54:AC:=.blk 1 (.seq (Ad [oP 10 (Af 0 4),oP 11 (Ag 10),oP 12 (Al 11 2)] (Ak 12 (.seq (Ad [Ac 13 2,oP 14 (Af 1 4),oP 15 (Ag 14),oP 16 (.call 220 [(.t 13),(.t 15)]),Ac 7 16] (Ad [Ac 17 7,oP 18 (.bin 2 .neq (.t 17) (.c .nilp))] (Ak 18 (Ad [Ac 19 0,Ac 20 7,oP 21 (.hcall 201 [(.t 19),(.t 20)]),Ac 6 21] .ret) .skip))) (Cs [Ac 22 2,⟨(some 23),(.call 185 [(.t 22)]),none,1,true,[]⟩,oI 24 2 (Af 1 4),⟨(some 25),(Ag 24),none,3,false,[1]⟩,oI 26 4 (Bu .sub 23 25),oI 27 5 (Bi .sub 26 1),oI 28 6 (.build [(iS 0),(iS 0),(iS 0),(iS 0),(iS 0),.nils] [(0,(1,(cI 2))),(4,(1,(.t 27)))]),oI 29 7 (.box (.t 28)),oI 6 8 (mT 29)] .ret)) .skip)) (Ad [oP 30 (Af 0 4),oP 31 (Ag 30),oP 32 (.call 223 [(.t 31)]),Ac 8 32] (.seq (Ad [Ac 33 8,oP 34 (Bi .lss 33 0)] (Ak 34 (Ad [Ac 35 0,oP 36 (Ao 5 4),Ac 37 2,oP 38 (.hcall 230 [(.t 35),(.t 36),(.t 37),(cI (-1)),(.c .nilp)]),Ac 6 38] .ret) .skip)) (Ad [Ac 39 0,oP 40 (Af 4 4),oP 41 (Ag 40),Ac 42 8,oP 43 (.iad 5 (.t 41) (.t 42)),oP 44 (Ao 5 43),Ac 45 2,oP 46 (.hcall 221 [(.t 39),(.t 44),(.t 45)]),Ac 9 46] (.blk 2 (Ad [oP 54 (Af 0 4),oP 55 (Ag 54),oP 56 (Al 55 15),Ac 57 56,oG 58 57 true 0 (mT 9),oG 59 57 true 0 (At 58),oG 60 57 true 0 (Af 0 59),oG 61 57 true 0 (Ag 60),oG 62 57 true 0 (Al 61 14),oP 63 (Bv 57 62),Ac 53 63] (Ak 53 (Ad [Ac 64 0,oP 65 (.hcall 224 [(.t 64)])] (.reg [Ac 66 9,oI 67 1 (At 66),oI 68 2 (Af 5 67),⟨(some 69),(Ag 68),none,3,true,[]⟩,⟨(some 70),(.iad 1 (.t 69) (cI 1)),none,4,true,[]⟩,⟨(some 71),(Ag 70),none,5,true,[]⟩,oI 72 6 (At 71),oI 73 7 (Af 0 72),⟨(some 74),(Ao 5 73),none,8,true,[]⟩,oI 75 9 (mT 9),oI 76 10 (At 75),oI 77 11 (Af 5 76),⟨(some 78),(Ag 77),none,12,true,[]⟩,⟨(some 79),(.iad 1 (.t 78) (cI 1)),none,13,true,[]⟩,⟨(some 80),(Ag 79),none,14,true,[]⟩,oI 81 15 (At 80),oI 82 16 (Af 5 81),⟨(some 83),(Ag 82),none,17,true,[]⟩,oI 84 18 (Af 4 4),oI 85 19 (Ag 84),oI 86 20 (.iad 5 (.t 85) (cI 1)),oI 87 21 (Ao 5 86),oI 88 22 (mT 2),⟨(some 89),(.hcall 114 [(.t 87),(.t 88)]),none,23,false,[3,4,5,8,12,13,14,17,23]⟩,⟨(some 90),(.call 149 [(.t 83),(.t 89)]),none,24,false,[3,4,5,8]⟩,oJ 25 (Bn 5 4 74),oI 2 26 (mT 90)] true)) (Ad [oP 92 (Af 0 4),oP 93 (Ag 92),oP 94 (Al 93 18),Ac 95 94,oG 96 95 true 0 (mT 9),oG 97 95 true 0 (At 96),oG 98 95 true 0 (Af 0 97),oG 99 95 true 0 (Ag 98),oG 100 95 true 0 (Al 99 17),oP 101 (Bv 95 100),Ac 91 101] (Ak 91 (Ad [Ac 102 0,oP 103 (.hcall 224 [(.t 102)])] (Ad [Ac 104 0,Ac 105 9,oP 106 (At 105),oP 107 (Af 5 106),oP 108 (Ag 107),oP 109 (.iad 1 (.t 108) (cI 2)),oP 110 (Ag 109),oP 111 (.hcall 201 [(.t 104),(.t 110)]),Ac 6 111] .ret)) (Ad [oP 113 (Af 0 4),oP 114 (Ag 113),oP 115 (Al 114 19),Ac 116 115,oG 117 116 true 0 (mT 9),oG 118 116 true 0 (At 117),oG 119 116 true 0 (Af 0 118),oG 120 116 true 0 (Ag 119),oG 121 116 true 0 (Al 120 17),oP 122 (Bv 116 121),Ac 112 122] (Ak 112 (Ad [Ac 123 0,oP 124 (.hcall 224 [(.t 123)])] (Ad [Ac 125 0,Ac 126 9,oP 127 (At 126),oP 128 (Af 5 127),oP 129 (Ag 128),oP 130 (.iad 1 (.t 129) (cI 3)),oP 131 (Ag 130),oP 132 (.hcall 201 [(.t 125),(.t 131)]),Ac 6 132] .ret)) (Ad [oP 134 (Af 0 4),oP 135 (Ag 134),oP 136 (Al 135 22),Ac 137 136,oG 138 137 true 0 (mT 9),oG 139 137 true 0 (At 138),oG 140 137 true 0 (Af 0 139),oG 141 137 true 0 (Ag 140),oG 142 137 true 0 (Al 141 21),oP 143 (Bv 137 142),Ac 133 143] (Ak 133 (Ad [Ac 144 0,oP 145 (.hcall 224 [(.t 144)])] (Bo [oP 146 (Af 4 4),oP 147 (Ag 146),oP 148 (.iad 5 (.t 147) (cI 3)),oP 149 (Ao 5 148),oN (Bn 5 4 149)])) (Ad [Ac 47 0,oP 48 (Ao 5 4),Ac 49 2,Ac 50 8,Ac 51 9,oP 52 (.hcall 230 [(.t 47),(.t 48),(.t 49),(.t 50),(.t 51)]),Ac 6 52] .ret))))))))))))))
def af221:AF:=⟨150,[(.t 6)],(Ad [oP 4 (.box (.t 1)),oP 6 (.mv (.c .nilp))] (.blk 0 (.loop a221_54)))⟩
def tr221:trF Tryz.prog Tryz.f221=some af221:=by kernel_rfl
attribute [go_sem] af221 a221_54
def af230:AF:=⟨65,[(.t 10)],(Ad [oP 6 (.box (.t 1)),oP 10 (.mv (.c .nilp))] (Ad [oP 14 (Af 0 6),oP 15 (Ag 14),oP 16 (Af 1 6),oP 17 (Ag 16),oP 18 (Af 2 6),oP 19 (Ag 18),oP 20 (Af 3 6),oP 21 (Ag 20),oP 22 (.build [(iS 0),(iS 0),(iS 0),(iS 0),(iS 0),.nils] [(0,(1,(.t 15))),(1,(1,(.t 17))),(2,(1,(.t 19))),(3,(1,(.t 21)))]),oP 23 (.box (.t 22)),Ac 11 23] (.seq (Ad [oP 24 (Af 4 6),oP 25 (Ag 24),oP 26 (.len false (.t 25)),oP 27 (Bi .gtr 26 0)] (Ak 27 (Bo [Ac 28 11,oP 29 (Af 4 6),oP 30 (Ag 29),oP 31 (.len false (.t 30)),oP 32 (.mk 1 8 [.nilp] (.t 31) (.t 31)),oP 33 (At 28),oP 34 (Af 5 33),oN (Bn 1 34 32)]) .skip)) (.seq (Ad [oP 35 (Af 4 6),oP 36 (Ag 35),oP 37 (.len false (.t 36)),oP 38 (.mv (cI 0))] (.blk 0 (.loop (Ad [oP 39 (Bu .lss 38 37)] (.seq (Em 39 0) (.seq (.blk 1 (Ad [Ac 40 38,oP 41 (.iad 5 (.t 36) (.t 38)),oP 42 (Ao 5 41),oP 13 Fe,Ac 12 40,oN (Bn 5 13 42)] (.seq (Ad [Ac 43 12,Ac 44 3,oP 45 (Bu .eql 43 44)] (Ak 45 (Cs [Ac 46 11,oI 47 1 (At 46),oI 48 2 (Af 5 47),⟨(some 49),(Ag 48),none,3,true,[]⟩,oI 50 4 (mT 12),oI 51 5 (mT 4),⟨(some 52),(.hcall 181 [(.t 51)]),none,6,false,[3,6]⟩,oI 53 7 (.iad 1 (.t 49) (.t 50)),oJ 8 (Bn 1 53 52)] (.exit 1)) .skip)) (.reg [Ac 54 11,oI 55 1 (At 54),oI 56 2 (Af 5 55),⟨(some 57),(Ag 56),none,3,true,[]⟩,oI 58 4 (mT 12),oI 59 5 (Ao 5 13),oI 60 6 (mT 2),⟨(some 61),(.hcall 114 [(.t 59),(.t 60)]),none,7,false,[3,7]⟩,oI 62 8 (.iad 1 (.t 57) (.t 58)),oJ 9 (Bn 1 62 61)] true)))) (Bo [oP 63 (Bi .add 38 1),Ac 38 63]))))))) (Ad [Ac 64 11,Ac 10 64] .ret)))))⟩
def tr230:trF Tryz.prog Tryz.f230=some af230:=by kernel_rfl
attribute [go_sem] af230
open Go Go.RowKit Go.Proofs.YtgfehkhcmnfpaaaGreatDoor
def Alr(y:Option Vl){hp:List Ob}:Dl hp (Fp y)=some (Fp y,hp)/\Dn hp (Fp y)=some (Fp y,hp)/\Ec hp (Fp y)=[]/\Dh (Fp y)=[]/\(Fp y).closed=true/\(Fp y).ok=true/\cellsOf (Fp y)=[Fp y]:=by
 cases y<;>exact⟨rfl,rfl,rfl,rfl,rfl,rfl,rfl⟩
def A0g{e:Option Vl}{hp:List Ob}:Dl hp (Fp e)=some (Fp e,hp):=(Alr e).1
def A0h{e:Option Vl}{hp:List Ob}:Ec hp (Fp e)=[]:=(Alr e).2.2.1
attribute [go_sem] A0g A0h
def Aob(n:Nat)(e:List Nat):below n (Eu e)=true:=by cases e<;>rfl
def Aoc(n:Nat)(e:Option Vl):below n (Fp e)=true:=by cases e<;>rfl
attribute [go_sem] Aob Aoc
def Aa4(k:Int)(y:Option Vl)(e:List Nat)(i:Nat)(kid:Tm):List SV:=if (i:Int)=k then Ac1 y none else thR ⟨kid,e,false,none,none⟩
def Je(k:Int)(y:Option Vl)(e:List Nat):Nat->List Tm->GV
 |_,[]=>[]
 |i,x::l=>Aa4 k y e i x::Je k y e (i+1) l
def Azs(k:Int)(y:Option Vl)(e:List Nat):∀(a b:List Tm) (i:Nat),Je k y e i (a++b)=Je k y e i a++Je k y e (i+a.length) b:=by
 intro a
 induction a with
 |nil=>intro b i;simp[Je]
 |cons x a ih=>intro b i;simp only[q_kn,Je,ih,q_jk];rw[show i+1+a.length=i+(a.length+1) by omega]
def Azt(k:Int)(y:Option Vl)(e:List Nat):∀(a:List Tm) (i:Nat),(Je k y e i a).length=a.length:=by
 intro a
 induction a with
 |nil=>intro i;rfl
 |cons x a ih=>intro i;simp[Je,ih]
def Aod{a b:Int}(h:a=b):(a==b)=true:=by simpa using h
def Awt{G:GV}{m:Nat}(k' i' j' n':Int)(l:List Tm)(hb:l.length*56<=140737488355328)(hz:l≠[])(e:List Nat)(k:Int)(y:Option Vl)(hy:∀q:Nat,q<l.length->(q:Int)=k->∃v,y=some v) :
  Dc 230 G [.gp m 0,.agg true (tv (.mk k' i' j' n' l)),Eu e,.int .i64 k,Fp y] (.ret (vlV ⟨k',i',j',n',0,List.range' G.length l.length⟩)) (G++Je k y e 0 l):=by
 refine Cl mixed Tryz.func230 tr230 ?_;rw[Bp];have Bl:0<l.length:=List.length_pos_iff.2 hz;have h3:l.length<=140737488355328:=by omega
 have e1:(0:Int)<=(l.length:Int):=by omega
 have e2:((l.length:Int)*8<=140737488355328):=by omega
 have e3:((l.length:Int)<=140737488355328):=by omega
 simp only[go_sem,seval,q_g,h3,q_jn (show (l.length:Int) > 0 by omega),e1,e2,e3,Int.le_refl];have hlx:∀x,x<=l.length->(G++Je k y e 0 (l.take x)).length=G.length+x:=fun x hx=>by rw[q_jr,Azt,q_kg,Nat.min_eq_left hx]
 have Ox:∀x,(h:x<l.length)->G++Je k y e 0 (l.take (x+1))=(G++Je k y e 0 (l.take x))++[Aa4 k y e x l[x]]:=fun x h=>by
  rw[List.take_succ_eq_append_getElem h,Azs,q_ju,q_kg,Nat.min_eq_left (by omega),q_jg];rfl
 refine Kf (fun x=>⟨(.gp m 0::.J::Eu e::.int .i64 k::Fp y::.J::.ref 1 0 0 0::jk4 (.ref 2 0 0 0::Fa (jk8 (.dsl 5 (l.map tv)::.int .i64 l.length::.int .i64 x::Fa (jk8 (jk2 ([]))))))),[gOb (G++Je k y e 0 (l.take x)),⟨true,5,[[.int .i64 k',.int .i64 i',.int .i64 j',.int .i64 n',.dsl 5 (l.map tv)]],0,0,true⟩,⟨true,6,[[.int .i64 k',.int .i64 i',.int .i64 j',.int .i64 n',.int .i64 0,.osl 3 0 0 l.length]],0,0,false⟩,⟨false,1,((List.range' G.length x).map fun i=>[SV.gp i 0])++List.replicate (l.length-x) [.nilp],0,0,true⟩]⟩) l.length (fun x hx=>?_) ?_
 ·by_cases Aq:x<l.length
  ·have e0:(0:Int)<=(x:Int):=by omega
   have hg:(l.map tv)[x]?.getD []=tv l[x]:=by rw[q_ji,q_f Aq];rfl
   have hset:(((List.range' G.length x).map fun i=>[SV.gp i 0])++List.replicate (l.length-x) [SV.nilp]).set x [SV.gp (G.length+x) 0]=((List.range' G.length (x+1)).map fun i=>[SV.gp i 0])++List.replicate (l.length-(x+1)) [SV.nilp]  :=by
    rw[List.set_append_right _ _ (by simp),q_g,List.length_range',Nat.sub_self,show l.length-x=(l.length-(x+1))+1 by omega,List.replicate_succ,List.set_cons_zero,List.range'_concat,q_kt,q_ju,Nat.one_mul];rfl
   by_cases hk:(x:Int)=k
   ·obtain⟨yv,rfl⟩:=hy x Aq hk;simp only[go_sem,seval,q_jn (show (x:Int)<l.length by omega),e0,q_g,Aq,hg,Bz,Aod hk];refine⟨by omega,Ai (Awj _ yv) ?_⟩;simp only[go_sem,seval,hlx x (Nat.le_of_lt Aq),q_jr,q_g,List.length_range',q_kj,e0,hset,show (x:Int)<l.length by omega,show x<x+(l.length-x) by omega,w64 (show fit ((x:Int)+1) by unfold fit;omega)];refine⟨Aq,?_⟩;rw[Ox x Aq,Aa4,if_pos hk];exact Js 4 (by simp[Cb,Qz]) (by simp only[List.take_succ_cons,List.take_zero]) (by simp only[go_sem,seval,List.forall_mem_cons]) (by simp[below,gOb])
   ·simp only[go_sem,seval,q_jn (show (x:Int)<l.length by omega),e0,q_g,Aq,hg,Bz,Bh hk];refine⟨by omega,Ai (Ya _ _ e) ?_⟩;simp only[go_sem,seval,hlx x (Nat.le_of_lt Aq),q_jr,q_g,List.length_range',q_kj,e0,hset,show (x:Int)<l.length by omega,show x<x+(l.length-x) by omega,w64 (show fit ((x:Int)+1) by unfold fit;omega)];refine⟨Aq,?_⟩;rw[Ox x Aq,Aa4,if_neg hk];exact Js 4 (by simp[Cb,Qz]) (by simp only[List.take_succ_cons,List.take_zero]) (by simp only[go_sem,seval,List.forall_mem_cons]) (by simp[below,gOb])
  ·have:x=l.length:=by omega
   subst this;simp only[go_sem,seval,q_je (show ¬((l.length:Nat):Int)<l.length by omega),q_kl,Nat.sub_self,List.replicate_zero];rw[vlV,vlC,Am1 (by simp[List.range'_eq_nil_iff];omega),q_js (by simp)]
 ·simp only[List.take_zero,Je,q_k,List.range'_zero,q_i,q_km,q_kr];exact Cr (by simp[Cb])
def Ab3{C:CT}{b:AC}{Q:AE->St->Prop}{n:Nat}{s s':St}(h:Wk s s')(k:vcI C b Q n s'):vcI C b Q n s:=by
 cases n with
 |zero=>exact k
 |succ n=>
  obtain⟨s0,h1,h2⟩:=k;exact⟨s0,.trans h h1,h2⟩
def EvL(G:GV)(m:Nat)(t:Tm)(e:List Nat)(out:HOut)(G':GV):Prop:=
 ∃n,vcI (Eh Tryz.prog fun x G1=>out=.pan x/\G1=G') a221_54 (bk 0 (rtG [.t 6] out G')) n ⟨(.gp m 0::.J::Eu e::.J::.ref 1 0 0 0::Fb (Fb (Fb (Fb (Fa (.J::[])))))),[gOb G,⟨true,5,[tv t],0,0,true⟩]⟩
def Awk{G G':GV}{m:Nat}{t:Tm}{e:List Nat}{out:HOut}(h:EvL G m t e out G'):Dc 221 G [.gp m 0,.agg true (tv t),Eu e] out G':=by
 refine Cl mixed Tryz.func221 tr221 ?_;obtain⟨n,h⟩:=h;simp only[go_sem,seval,Bz];exact Ff n (Ab3 (Cr (by simp[Cb])) h)
def Ahx{k:Int}(h:k≠15/\k≠18/\k≠19/\k≠22):Con 223 [.int .i64 k] (.int .i64 (-1)):=by
 have:=Acv k
 rwa [if_neg (by omega),if_neg h.2.2.2] at this
def Arh{k:Int}(h:k=15\/k=18\/k=19):Con 223 [.int .i64 k] (.int .i64 0):=by
 have:=Acv k
 rwa [if_pos h] at this
def Ari:Con 223 [.int .i64 22] (.int .i64 5):=Acv 22
def Awu{G:GV}{m:Nat}(k' i' j' n':Int)(e:List Nat)(k:Int)(y:Option Vl) :
  Dc 230 G [.gp m 0,.agg true (tv (.mk k' i' j' n' [])),Eu e,.int .i64 k,Fp y] (.ret (vlV ⟨k',i',j',n',0,[]⟩)) G:=by
 refine Cl mixed Tryz.func230 tr230 ?_;rw[Bp];simp only[go_sem,seval,q_i];refine Ff 1 (Bk ?_);simp only[go_sem,seval,vlV,vlC,A3x]
def Aa5(k' i' j' n':Int)(l:List Tm)(a:Nat):Vl:=⟨k',i',j',n',0,List.range' a l.length⟩
def Awv{G:GV}{m:Nat}(k' i' j' n':Int)(l:List Tm)(hb:l.length*56<=140737488355328)(e:List Nat)(k:Int)(y:Option Vl)(hy:∀q:Nat,q<l.length->(q:Int)=k->∃v,y=some v) :
  Dc 230 G [.gp m 0,.agg true (tv (.mk k' i' j' n' l)),Eu e,.int .i64 k,Fp y] (.ret (vlV (Aa5 k' i' j' n' l G.length))) (G++Je k y e 0 l):=by
 by_cases hz:l=[]
 ·subst hz;have:=Awu (G:=G) (m:=m) k' i' j' n' e k y;simpa [Aa5,Je] using this
 ·exact Awt k' i' j' n' l hb hz e k y hy
def Avf{G:GV}{m:Nat}{k i j n:Int}{l:List Tm}{e:List Nat}(hb:l.length*56<=140737488355328)(hk:k≠2)(hs:k≠15/\k≠18/\k≠19/\k≠22):EvL G m (.mk k i j n l) e (.ret (vlV (Aa5 k i j n l G.length))) (G++Je (-1) none e 0 l):=by
 refine⟨1,Bk ?_⟩;have hc:=Awv (G:=G) (m:=m) k i j n l hb e (-1) none (fun q _ h=>by omega);rw[Afo,Bp] at hc;rw[Bp]
 repeat' first
 |simp only[go_sem,seval,Bh hk]
 |refine Ae (Ahx hs) ?_
 |refine Ai hc ?_
def Afc{α:Type}{l:List α}{i:Nat}{x:α}(h:l[i]?=some x):i<l.length:=by
 rcases q_jo i l.length with h1|h1
 ·exact h1
 ·rw[q_jd h1] at h;cases h
def Am2{l:List Nat}{q id:Nat}(h:l[q]?=some id):e8 l=.dsl 1 (l.map fun i=>[.gp i 0])/\(q:Int)<l.length/\q<l.length/\(l.map fun i=>[SV.gp i 0])[q]?.getD []=[.gp id 0]:=by
 have hq:q<l.length:=by
  rcases q_jo q l.length with h1|h1
  ·exact h1
  ·rw[q_jd h1] at h;cases h
 refine⟨Am1 (by rintro rfl;simp at hq),by omega,hq,by simp[h]⟩
def A5k{G G1:GV}{m id:Nat}{th th1:Th}{v:Vl}(h:G[id]?=some (thR th))(hw:th.w=none)(hb:th.bare=false)(he:Dc 221 G [.gp m 0,.agg true (tv th.t),Eu th.env] (.ret (vlV v)) G1)(h1:G1[id]?=some (thR th1)) :
  Dc 201 G [.gp m 0,.gp id 0] (.ret (vlV v)) (G1.set id (thR { th1 with w:=some v })):=by
 refine Cl mixed Tryz.func201 tr201 ?_;obtain⟨t,te,b,w,x⟩:=th;simp only at hw hb he;subst hw hb;simp only[go_sem,seval,h,Afo];refine Ai he ?_;have Aq:=Afc h1;simp only[go_sem,seval,h1,Amy,Ve h1,Zx,Aa9,q_jq Aq]
inductive Qu(G:GV):Vl->Prop
 |base {v:Vl} (h:v.k≠23) (hs:v.k≠15/\v.k≠18/\v.k≠19/\v.k≠22):Qu G v
 |step0 {v y:Vl} {id:Nat} {th:Th} (h:v.k=15\/v.k=18\/v.k=19) (hid:v.kids[0]?=some id) (Yx:G[id]?=some (thR th)) (hw:th.w=some y) (hy:Qu G y):Qu G v
 |step5 {v y:Vl} {id:Nat} {th:Th} (h:v.k=22) (hid:v.kids[5]?=some id) (Yx:G[id]?=some (thR th)) (hw:th.w=some y) (hy:Qu G y):Qu G v
def Ank(G:GV)(m:Nat)(v:Vl)(out:HOut):Prop:=
 ∃n,vcI (Eh Tryz.prog fun x G1=>out=.pan x/\G1=G) a202_24 (bk 0 (rtG [.t 4] out G)) n ⟨(.gp m 0::vlV v::.J::.J::.int .i64 0::Fb (Fa (jk2 ([])))),[gOb G]⟩
def A3f{G:GV}{m:Nat}{v:Vl}(h:Qu G v){out:HOut}(ho:out=.ret (.int .i64 0)):Ank G m v out:=by
 induction h with
 |base h hs=>
  refine⟨1,Bk ?_⟩;simp only[go_sem,seval,vlV,Bh h];refine Ae (Ahx hs) ?_;subst ho;simp only[go_sem,seval]
 |@step0 v y id th h hid Yx hw hy ih=>
  obtain⟨n,ih⟩:=ih;refine⟨n+1,Bk ?_⟩;obtain⟨k1,k2,k3,k4⟩:=Am2 hid;have k2':(0:Int)<v.kids.length:=by omega
  have Bs:v.k≠23:=by omega
  obtain⟨t,te,b,w,x⟩:=th;simp only at hw;subst hw;simp only[go_sem,seval,vlV,Bh Bs];refine Ae (Arh h) ?_;simp only[go_sem,seval,vlV,k1,k2',k3,k4,Yx,Aa9,q_g];exact Ab3 (Cr (by simp[Cb,vlV])) ih
 |@step5 v y id th h hid Yx hw hy ih=>
  obtain⟨n,ih⟩:=ih;refine⟨n+1,Bk ?_⟩;obtain⟨k1,k2,k3,k4⟩:=Am2 hid;have k2':(5:Int)<v.kids.length:=by omega
  have Bs:v.k≠23:=by omega
  have h5:Con 223 [.int .i64 v.k] (.int .i64 5):=by rw[h];exact Ari
  obtain⟨t,te,b,w,x⟩:=th;simp only at hw;subst hw;simp only[go_sem,seval,vlV,Bh Bs];refine Ae h5 ?_;simp only[go_sem,seval,vlV,k1,k2',k3,k4,Yx,Aa9,q_g];exact Ab3 (Cr (by simp[Cb,vlV])) ih
def Aw0{G:GV}{m:Nat}{v:Vl}(h:Qu G v):Dc 202 G [.gp m 0,vlV v] (.ret (.int .i64 0)) G:=by
 obtain⟨out,ho⟩:∃out,out=HOut.ret (.int .i64 0):=⟨_,rfl⟩
 rw[<-ho];refine Cl mixed Tryz.func202 tr202 ?_;obtain⟨n,h⟩:=A3f (m:=m) h ho;simp only[go_sem,seval];exact Ff n (Ab3 (Cr (by simp[Cb])) h)
def Aw9{G G1:GV}{m id:Nat}{th th1:Th}{v:Vl}(h:G[id]?=some (thR th))(hv:th.v=none)(he:Dc 201 G [.gp m 0,.gp id 0] (.ret (vlV v)) G1)(h1:G1[id]?=some (thR th1))(hn:Qu G1 v) :
  Dc 172 G [.gp m 0,.gp id 0] (.ret (vlV v)) (G1.set id (thR { th1 with v:=some v })):=by
 refine Cl mixed Tryz.func172 tr172 ?_;obtain⟨t,te,b,w,y⟩:=th;simp only at hv;subst hv;simp only[go_sem,seval,h,Afo];refine Ai he ?_;have Aq:=Afc h1
 repeat' first
 |simp only[go_sem,seval,h1,Amz,Ve h1,Zx,Aa9,q_jq Aq]
 |refine Ff 1 (Bk ?_)
 |refine Ai (Aw0 hn) ?_
def Am3{k i j n:Int}{l:List Tm}(h:TOk (.mk k i j n l)):fit k/\fit i/\fit j/\fit n/\l.length*56<=140737488355328/\∀t∈l,TOk t:=by
 cases h with
 |mk _ _ _ _ _ f1 f2 f3 f4 hb hl=>exact⟨f1,f2,f3,f4,hb,hl⟩
open Classical in
noncomputable def eqT (a b:Tm):Bool:=decide (a=b)
def Ac2(a:Tm):eqT a a=true:=by unfold eqT;simp
def Ah8{a b:Tm}(h:a≠b):eqT a b=false:=by unfold eqT;simp[h]
def eqT_iff{a b:Tm}:eqT a b=true↔a=b:=by unfold eqT;simp
def Apy(k i j n k' i' j' n':Int)(rows rows':GV)(E:Nat->Bool)(h5:∀r∈rows,r.length=5)(Iv:∀r∈rows',r.length=5)(h2:rows.length*56<=140737488355328)
  (H:∀x,x<rows.length->x<rows'.length->Con 22 [.agg true (rows[x]?.getD []),.agg true (rows'[x]?.getD [])] (.bool (E x))) (r0:Bool)
  (hn:¬(k=k'/\i=i'/\j=j'/\n=n'/\rows.length=rows'.length)->r0=false)
  (hf:k=k'->i=i'->j=j'->n=n'->rows.length=rows'.length->∀x,x<rows.length->E x=false->r0=false)
  (ht:k=k'->i=i'->j=j'->n=n'->rows.length=rows'.length->(∀x,x<rows.length->E x=true)->r0=true) :
  Con 22 [.agg true [.int .i64 k,.int .i64 i,.int .i64 j,.int .i64 n,.dsl 5 rows],.agg true [.int .i64 k',.int .i64 i',.int .i64 j',.int .i64 n',.dsl 5 rows']] (.bool r0):=by
 refine Bt mixed Tryz.func22 tr22 ?_
 by_cases a1:k=k'
 rotate_left
 ·have q:(k != k')=true:=by simp[a1]
  rw[hn (fun h=>a1 h.1)];simp only[go_sem,seval,q]
 have q1:(k != k')=false:=by simp[a1]
 by_cases a2:i=i'
 rotate_left
 ·have q:(i != i')=true:=by simp[a2]
  rw[hn (fun h=>a2 h.2.1)];simp only[go_sem,seval,q1,q]
 have q2:(i != i')=false:=by simp[a2]
 by_cases a3:j=j'
 rotate_left
 ·have q:(j != j')=true:=by simp[a3]
  rw[hn (fun h=>a3 h.2.2.1)];simp only[go_sem,seval,q1,q2,q]
 have q3:(j != j')=false:=by simp[a3]
 by_cases a4:n=n'
 rotate_left
 ·have q:(n != n')=true:=by simp[a4]
  rw[hn (fun h=>a4 h.2.2.2.1)];simp only[go_sem,seval,q1,q2,q3,q]
 have q4:(n != n')=false:=by simp[a4]
 by_cases a5:rows.length=rows'.length
 rotate_left
 ·have q:((rows.length:Int) != (rows'.length:Int))=true:=by simp;omega
  rw[hn (fun h=>a5 h.2.2.2.2)];simp only[go_sem,seval,q1,q2,q3,q4,q]
  try intros
 have q5:((rows.length:Int) != (rows'.length:Int))=false:=by simp;omega
 simp only[go_sem,seval,q1,q2,q3,q4,q5];intros;refine Ul (fun x=>⟨(.J::.J::.ref 0 0 0 0::.ref 1 0 0 0::.bool false::Fb (jk4 (jk2 (.int .i64 rows.length::.int .i64 x::jk8 (jk4 (jk2 (.J::[]))))))),[⟨true,5,[[.int .i64 k,.int .i64 i,.int .i64 j,.int .i64 n,.dsl 5 rows]],0,0,true⟩,⟨true,5,[[.int .i64 k',.int .i64 i',.int .i64 j',.int .i64 n',.dsl 5 rows']],0,0,true⟩]⟩) rows.length (fun x=>E x=true) (fun x hx hp=>?_) ?_
 ·simp only[go_sem,seval];refine⟨fun h=>?_,fun h=>?_⟩
  ·have Aq:=q_ku h;have El:x<rows.length:=by omega
   have Yl:x<rows'.length:=by omega
   have hltz:(x:Int)<(rows'.length:Int):=by omega
   have e0:(0:Int)<=(x:Int):=by omega
   have g1:=h5 _ (Fg (d:=[]) El);have g2:=Iv _ (Fg (d:=[]) Yl);simp only[go_sem,seval,Aq,hltz,e0,g1,g2];refine Ae (H x El Yl) ?_;cases hE:E x<;>simp only[go_sem,seval]
   ·rw[hf a1 a2 a3 a4 a5 x El hE]
   ·refine⟨El,?_⟩;rw[w64 (n:=(x:Int)+1) (by unfold fit;omega)];exact Cr (by simp[Cb])
  ·have Hz:=q_kv h;have Oc:x=rows.length:=by omega
   simp only[go_sem,seval,h];rw[ht a1 a2 a3 a4 a5 (fun y hy=>hp y (by omega))]
 ·exact Cr (by simp[Cb])
def Apw(a:Tm):TOk a->∀b,TOk b->Con 22 [.agg true (tv a),.agg true (tv b)] (.bool (eqT a b)):=by
 induction a using Tm.ind with
 |h k i j n l ih=>
  intro hok b hb;cases b with
  |mk k' i' j' n' l'=>
  obtain⟨_,_,_,_,hbl,hl⟩:=Am3 hok;obtain⟨_,_,_,_,hbl',hl'⟩:=Am3 hb;have e1:(l.map tv).length=l.length:=by simp
  have e2:(l'.map tv).length=l'.length:=by simp
  rw[Bp,Bp];refine Apy k i j n k' i' j' n' (l.map tv) (l'.map tv) (fun x=>eqT (l[x]?.getD default) (l'[x]?.getD default)) (rows5 l) (rows5 l') (by omega) (fun x hx Dd=>?_) _ (fun h=>Ah8 (fun h'=>h ?_)) (fun a1 a2 a3 a4 a5 x hx hE=>Ah8 (fun h'=>?_)) (fun a1 a2 a3 a4 a5 hE=>?_)
  ·rw[e1] at hx;rw[e2] at Dd;rw[q_ji,q_ji,q_f hx,q_f Dd];exact ih _ (q_kd hx) (hl _ (q_kd hx)) _ (hl' _ (q_kd Dd))
  ·cases h';exact⟨rfl,rfl,rfl,rfl,rfl⟩
  ·cases h';rw[Ac2] at hE;cases hE
  ·subst a1 a2 a3 a4;rw[e1,e2] at a5;rw[e1] at hE;have:l=l':=List.ext_getElem a5 (fun x hx Dd=>by
    have:=eqT_iff.1 (hE x hx);rw[q_f hx,q_f Dd] at this;exact this)
   rw[this];exact Ac2 _
def Asn(kd:Nat)(op:BinOp)(i c j d:Nat):Fq kd op (.gp i c) (.gp j d)=if kd=2 then eqB op (i==j && c==d) else none:=q_z
attribute [go_sem] Asn
def Axp(cap:Array Value)(w:World):(invoke (.fn (.func 204) cap) #[]).run Tryz.prog w=.ok (.enter 204 cap) w:=by
 simp[go_sem]
def Axk(cap:Array Value)(w:World):(invoke (.fn (.func 142) cap) #[]).run Tryz.prog w=.ok (.enter 142 cap) w:=by
 simp[go_sem]
def Amh{G:GV}{m j a b:Nat}{t:Tm}{wx ux wy uy:Option Vl}{steps most seen guess:Int}(hG:G[m]?=some (Ee steps most seen guess j))(hf:fit guess)(hg:guess≠1)(hs0:0<=seen)(hs:seen<8000000)(Xv:a≠b)
  (hx:(G.set m (Ee steps most (seen+1) (Pt guess) j))[a]?=some (thR ⟨t,[],false,wx,ux⟩)) (hy:(G.set m (Ee steps most (seen+1) (Pt guess) j))[b]?=some (thR ⟨t,[],false,wy,uy⟩)) (ht:TOk t) {deep:Int} {eta:Bool} :
  Dc 205 G [.gp m 0,.gp a 0,.gp b 0,.int .i64 deep,.bool eta] (.ret (.bool true)) (G.set m (Ee steps most (seen+1) (Pt guess) j)):=by
 refine Cl mixed Tryz.func205 tr205 ?_;simp only[go_sem,seval];refine Ai (Awy hG hf hg hs0 hs) ?_;have hab':(a==b)=false:=by simpa using Xv
 have hc:=Apw t ht t ht;rw[Ac2] at hc;simp only[go_sem,seval,hx,hy,hab',Qz];refine Ae hc ?_;simp only[go_sem,seval]
def Awx{G G':GV}{m j a b:Nat}{steps most seen guess most':Int}{deep:Int}{r:Bool}(hG:G[m]?=some (Ee steps most seen guess j))(h:Dc 205 (G.set m (Ee 0 most' 0 guess j)) [.gp m 0,.gp a 0,.gp b 0,.int .i64 deep,.bool true] (.ret (.bool r)) G') :
  Dc 174 G [.gp m 0,.gp a 0,.gp b 0,.int .i64 deep,.int .i64 most'] (.ret (.tup [.bool r,.bool true])) G':=by
 refine Aw7 mixed Tryz.func174 tr174 Axp Nrm.idle_quick ?_;simp only[go_sem,seval];refine Ai (Aja hG most') ?_;simp only[go_sem,seval];refine Ai h ?_;simp only[go_sem,seval]
def Ai8{G G':GV}{m j a b:Nat}{steps most seen guess:Int}{deep:Int}{r:Bool}(hG:G[m]?=some (Ee steps most seen guess j))(h:Dc 205 (G.set m (Ee 0 9 0 guess j)) [.gp m 0,.gp a 0,.gp b 0,.int .i64 deep,.bool true] (.ret (.bool r)) G') :
  Dc 145 G [.gp m 0,.gp a 0,.gp b 0,.int .i64 deep,.int .i64 9] (.ret (.bool r)) G':=by
 refine Cl mixed Tryz.func145 tr145 ?_;simp only[go_sem,seval];refine Ai (Awx hG h) ?_;simp only[go_sem,seval]
def Ahw{f:Nat}{args:List SV}{v:Value}{r:SV}(hr:∀m,Rep m v r)(h:∀(m:Mem) (w:World) (vs:List Value),vs.length=args.length->(∀(j:Nat) v x,vs[j]?=some v->args[j]?=some x->Rep m v x)->Calls Tryz.prog f vs.toArray w fun e w'=>e=.returned v/\w'=w):Con f args r:=by
 intro m w vs h1 h2 h3;refine Calls.mono (h m w vs h2 h3) (fun e w' he=>?_);obtain⟨rfl,rfl⟩:=he;exact⟨_,m,rfl,hr m,⟨.refl m,rfl⟩,fun _ _ _=>rfl,h1,rfl,rfl,rfl,q_ja _,fun _ _=>rfl⟩
def Ahi:Con 143 [.float .f64 4621256167635550208] (.int .i64 9):=by
 refine Ahw (v:=.int .i64 9) (fun m=>.int _ _) (fun m w vs h2 h3=>?_)
 match vs,h2 with
 |[v],_=>
  have hv:=h3 0 v _ rfl rfl;cases hv;exact Nrm.limit_9 w
def Arg:Con 137 [.bool true] (.tup []):=by
 refine Ahw (v:=.tuple #[]) (fun m=>.tup [] [] rfl (fun j v x h=>by simp at h)) (fun m w vs h2 h3=>?_)
 match vs,h2 with
 |[v],_=>
  have hv:=h3 0 v _ rfl rfl;cases hv;exact Nrm.so_true w
def Azn(a b:Tm)(f:Nat):∀x∈[SV.agg true (tv a),.agg true (tv b),.float .f64 f],NoG x:=by
 intro x hx;simp only[q_kb,q_kc,or_false] at hx;rcases hx with rfl|rfl|rfl
 ·exact Qm a true
 ·exact Qm b true
 ·exact .float _ _
def Azj(b:Bool)(n:Int):NoG (.tup [.bool b,.int .i64 n]):=by
 refine .tup _ (fun x hx=>?_);simp only[q_kb,q_kc,or_false] at hx;rcases hx with rfl|rfl
 ·exact .bool _
 ·exact .int _ _
def Ars(t:Tm)(ht:TOk t)(hp:Cz t 2=true):Con 107 [.agg true (tv t),.agg true (tv t),.float .f64 4621256167635550208] (.tup [.bool true,.int .i64 0]):=by
 refine Xf mixed Tryz.func107 tr107 Axk Nrm.idle_conv (Azn t t _) (Azj _ _) ?_;have hc:=p8 t ht;rw[hp] at hc;have hn:=Ai9 [] 9;have hl:=Ya [[.undef],Ee 0 9 0 0 0] t [];have hl2:=Ya [[.undef],Ee 0 9 0 0 0,thR ⟨t,[],false,none,none⟩] t [];have hs:=Ai8 (G:=[[.undef],Ee 0 9 0 0 0,thR ⟨t,[],false,none,none⟩,thR ⟨t,[],false,none,none⟩]) (m:=1) (j:=0) (a:=2) (b:=3) (deep:=0) (steps:=0) (most:=9) (seen:=0) (guess:=0) rfl
  (Amh (m:=1) (j:=0) (steps:=0) (most:=9) (seen:=0) (guess:=0) (wx:=none) (ux:=none) (wy:=none) (uy:=none) (t:=t) rfl (by unfold fit;omega) (by omega) (by omega) (by omega) (by omega) rfl rfl ht)
 have h5:=Bz t;generalize thR ⟨t,[],false,none,none⟩=ta at *
 generalize tv t=r1 at *
 simp only[go_sem,seval,h5];refine Ae hc ?_;simp only[go_sem,seval,h5];refine Ae hc ?_;simp only[go_sem,seval,h5];refine Ae Ahi ?_;simp only[go_sem,seval,h5];refine Ai hn ?_;simp only[go_sem,seval,h5];refine Ai hl ?_;simp only[go_sem,seval,h5];refine Ai hl2 ?_;simp only[go_sem,seval,h5];refine Ai hs ?_;simp only[go_sem,seval]
def af67:AF:=⟨32,[(.cell 4 false 1)],(Ad [oP 4 (.new [(iS 0)])] (.seq (Ad [Ac 8 0,oP 9 (.call 19 [(.t 8)]),oP 10 (.un .not (.t 9))] (Ak 10 (Ad [oN (.store 1 (.t 4) (cI 1))] .ret) .skip)) (Ad [oP 11 (.mv (cB true)),oN (.un .not (.t 11)),oP 11 (.mv (.c .J))] (Ad [Ac 12 1,oP 13 (.build [(.float .f64 0)] [(0,(1,(.t 12)))]),oP 14 (.boxg (.t 13)),Ac 5 14] (.seq (Ad [Ac 15 0,oP 16 (.len false (.t 15)),oP 17 (.mv (cI 0))] (.blk 0 (.loop (Ad [oP 18 (Bu .lss 17 16)] (.seq (Em 18 0) (.seq (.blk 1 (Ad [Ac 19 17,oP 20 (.iad 6 (.t 15) (.t 17)),oP 21 (Ao 6 20),oP 7 (.new [(iS 0),(iS 0),(iS 0),(iS 0),.nils,(iS 0)]),Ac 6 19,oN (Bn 6 7 21)] (.reg [Ac 22 5,oI 23 1 (mT 0),oI 24 2 (mT 6),oI 25 3 (.slc 6 (.t 23) none (some (.t 24))),oI 26 4 (Af 0 7),oI 27 5 (Ao 5 26),oI 28 6 (Af 5 7),oI 29 7 (Ag 28),⟨(some 30),(.hcall 105 [(.t 22),(.t 25),(.t 27),(.t 29)]),none,8,false,[8]⟩] true))) (Bo [oP 31 (Bi .add 17 1),Ac 17 31]))))))) (Ad [oN (.store 1 (.t 4) (cI 0))] .ret))))))⟩
def tr67:Pf Tryz.prog Tryz.f67=some (af67,11,103,1):=by kernel_rfl
attribute [go_sem] af67
def af106:AF:=⟨40,[(.cell 6 true 5),(.cell 7 false 1),(.cell 8 false 1)],(Ad [oP 4 (.box (.t 1)),oP 6 Fe,oP 7 (.new [(iS 0)]),oP 8 (.new [(iS 0)])] (.seq (Ad [Ac 10 0,oP 11 (.call 19 [(.t 10)]),oP 12 (.un .not (.t 11)),Ac 13 12,oG 14 13 false 0 (Ao 5 4),oG 15 13 false 0 (.call 20 [(.t 14)]),oG 16 13 false 0 (.un .not (.t 15)),oP 17 (Cx 13 16),Ac 18 17,oG 19 18 false 0 (Ao 5 4),oG 20 18 false 0 (.call 55 [(.t 19)]),oG 21 18 false 0 (mT 0),oG 22 18 false 0 (.len false (.t 21)),oG 23 18 false 0 (Bu .gtr 20 22),oP 24 (Cx 18 23)] (Ak 24 (Ad [oP 25 (Iq []),oN (Bn 5 6 25),oN (.store 1 (.t 7) (cI 0)),oN (.store 1 (.t 8) (cI 1))] .ret) .skip)) (Ad [oP 26 (.mv (cB true)),oN (.un .not (.t 26)),oP 26 (.mv (.c .J))] (Ad [Ac 27 2,oP 28 (.build [(.float .f64 0)] [(0,(1,(.t 27)))]),oP 29 (.boxg (.t 28)),Ac 9 29] (Ad [Ac 31 9,Ac 32 0,oP 33 (Ao 5 4),oP 34 (.hcall 136 [(.t 31),(.t 32),(.t 33)]),Ac 30 34,oP 35 (.ext (.t 30) 0),oP 36 (.ext (.t 30) 1),oN (Bn 5 6 35),oN (Bn 1 7 36)] (Cs [oP 37 (Ao 5 6),⟨(some 38),(.call 141 [(.t 37)]),none,1,true,[]⟩,⟨(some 39),(Ag 7),none,2,true,[1]⟩,⟨none,(Bn 5 6 38),none,3,false,[2]⟩,oJ 4 (Bn 1 7 39),oJ 5 (.store 1 (.t 8) (cI 0))] .ret))))))⟩
def tr106:Pf Tryz.prog Tryz.f106=some (af106,26,140,3):=by kernel_rfl
attribute [go_sem] af106
def af70:AF:=⟨32,[(.cell 4 false 1)],(Ad [oP 4 (.new [(iS 0)])] (.seq (Ad [Ac 9 0,oP 10 (.call 108 [(.t 9)]),oP 11 (.un .not (.t 10))] (Ak 11 (Ad [oN (.store 1 (.t 4) (cI 1))] .ret) .skip)) (Ad [oP 12 (.mv (cB true)),oN (.un .not (.t 12)),oP 12 (.mv (.c .J))] (Ad [Ac 13 1,oP 14 (.hcall 111 [(.t 13)]),Ac 5 14] (Ad [oP 6 (.mv (.c .nilp))] (.seq (Ad [Ac 15 0,oP 16 (.len false (.t 15)),oP 17 (.mv (cI 0))] (.blk 0 (.loop (Ad [oP 18 (Bu .lss 17 16)] (.seq (Em 18 0) (.seq (.blk 1 (Ad [oP 19 (.iad 5 (.t 15) (.t 17)),oP 20 (Ao 5 19),oP 8 Fe,oN (Bn 5 8 20)] (Ad [Ac 21 5,oP 22 (Ao 5 8),Ac 23 6,oP 24 (.hcall 112 [(.t 21),(.t 22),(.t 23)])] (Bo [Ac 25 5,Ac 26 6,oP 27 (Ao 5 8),Ac 28 6,oP 29 (.hcall 114 [(.t 27),(.t 28)]),oP 30 (.hcall 113 [(.t 25),(.t 26),(.t 29)]),Ac 6 30])))) (Bo [oP 31 (Bi .add 17 1),Ac 17 31]))))))) (Ad [oN (.store 1 (.t 4) (cI 0))] .ret)))))))⟩
def tr70:Pf Tryz.prog Tryz.f70=some (af70,12,109,1):=by kernel_rfl
attribute [go_sem] af70
def af72:AF:=⟨43,[(.cell 8 false 1)],(Ad [oP 5 (.box (.t 1)),oP 6 (.box (.t 2)),oP 8 (.new [(iS 0)])] (.seq (Ad [Ac 11 0,oP 12 (.call 108 [(.t 11)]),oP 13 (.un .not (.t 12)),Ac 14 13,oG 15 14 false 0 (mT 0),oG 16 14 false 0 (Ao 5 5),oG 17 14 false 0 (.call 115 [(.t 15),(.t 16)]),oG 18 14 false 0 (.un .not (.t 17)),oP 19 (Cx 14 18),Ac 20 19,oG 21 20 false 0 (mT 0),oG 22 20 false 0 (Ao 5 6),oG 23 20 false 0 (.call 115 [(.t 21),(.t 22)]),oG 24 20 false 0 (.un .not (.t 23)),oP 25 (Cx 20 24)] (Ak 25 (Ad [oN (.store 1 (.t 8) (cI 1))] .ret) .skip)) (Ad [oP 26 (.mv (cB true)),oN (.un .not (.t 26)),oP 26 (.mv (.c .J))] (Ad [Ac 27 3,oP 28 (.hcall 111 [(.t 27)]),Ac 9 28] (Ad [Ac 29 9,Ac 30 0,oP 31 (.hcall 117 [(.t 29),(.t 30)]),Ac 10 31] (Ad [Ac 32 9,oP 33 (Ao 5 6),Ac 34 10,oP 35 (.hcall 112 [(.t 32),(.t 33),(.t 34)])] (Cs [Ac 36 9,⟨(some 37),(Ao 5 5),none,1,true,[]⟩,oI 38 2 (mT 10),oI 39 3 (Ao 5 6),oI 40 4 (mT 10),⟨(some 41),(.hcall 114 [(.t 39),(.t 40)]),none,5,false,[1,5]⟩,⟨(some 42),(.hcall 118 [(.t 36),(.t 37),(.t 38),(.t 41)]),none,6,false,[6]⟩] (Ad [oN (.store 1 (.t 8) (cI 0))] .ret))))))))⟩
def tr72:Pf Tryz.prog Tryz.f72=some (af72,26,116,1):=by kernel_rfl
attribute [go_sem] af72
def Axn(cap:Array Value)(w:World):(invoke (.fn (.func 103) cap) #[]).run Tryz.prog w=.ok (.enter 103 cap) w:=by
 simp[go_sem]
def Axo(cap:Array Value)(w:World):(invoke (.fn (.func 140) cap) #[]).run Tryz.prog w=.ok (.enter 140 cap) w:=by
 simp[go_sem]
def A2x{i:Nat}(hi:i<=1000):Cz (Ca i) 1=true:=by
 have h1:=Rw hi;unfold Ca;rw[Kb];unfold Fw Id;rw[h1];rfl
def Amp{i:Nat}(hi:i<=1000):Cz (Ca i) 2=true:=by
 have h1:=Rw hi;unfold Ca;rw[Kb];unfold Fw Id;rw[h1];rfl
def Acl:Con 19 [.nils] (.bool true):=Ahe [] (fun k hk=>absurd hk (by simp)) (by simp)
def Aqc:Con 67 [.nils,.float .f64 4621256167635550208] (.int .i64 0):=by
 refine Xf mixed Tryz.func67 tr67 Axn Nrm.idle_mctx (fun x hx=>?_) (.int _ _) ?_
 ·simp only[q_kb,q_kc,or_false] at hx;rcases hx with rfl|rfl
  ·exact .nils
  ·exact .float _ _
 repeat' first
 |simp only[go_sem,seval]
 |refine Ae Acl ?_
 |refine Ff 1 (Bk ?_)
def Aw1{i:Nat}(hi:i<=900):Dc 136 [[.float .f64 4621256167635550208]] [.gp 0 0,.nils,.agg true (tv (Ca i))] (.ret (.tup [.agg true (tv (Ca (i+1))),.int .i64 ((i+2:Nat):Int)])) [[.float .f64 4621256167635550208]]:=by
 have hs:=Ahv ((i:Int)+1);unfold Ca at *
 rw[show ((i:Int)+1)=((i+1:Nat):Int) by omega] at hs;rw[Bp,Bp] at *
 have e1:IntKind.i64.wrap ((i:Int)+2)=((i+2:Nat):Int):=by rw[w64 (n:=(i:Int)+2) (by unfold fit;omega)];omega
 have e2:IntKind.i64.wrap ((i:Int)+1)=((i+1:Nat):Int):=by rw[w64 (n:=(i:Int)+1) (by unfold fit;omega)];omega
 have e3:(((i+2:Nat):Int)<=1000)=True:=by simp;omega
 refine Cl mixed Tryz.func136 tr136 ?_
 repeat' first
 |simp only[go_sem,seval,e1,e2,e3,q_i]
 |refine Ae Arg ?_
 |refine Ae hs ?_
def Aqd{i:Nat}(hi:i<=900):Con 106 [.nils,.agg true (tv (Ca i)),.float .f64 4621256167635550208] (.tup [.agg true (tv (Ca (i+1))),.int .i64 ((i+2:Nat):Int),.int .i64 0]):=by
 have o:=Qp (i:=i) (by omega);have o1:=Qp (i:=i+1) (by omega);refine Xf mixed Tryz.func106 tr106 Axo Nrm.idle_mtype (fun x hx=>?_) (.tup _ (fun x hx=>?_)) ?_
 ·simp only[q_kb,q_kc,or_false] at hx;rcases hx with rfl|rfl|rfl
  ·exact .nils
  ·exact Qm _ true
  ·exact .float _ _
 ·simp only[q_kb,q_kc,or_false] at hx;rcases hx with rfl|rfl|rfl
  ·exact Qm _ true
  ·exact .int _ _
  ·exact .int _ _
 have c1:=Nl (Ca i) o.1;have c2:=Qx (Ca i) o.1 (by omega);rw[o.2.2.1] at c2;have c3:=Ahd (Ca (i+1)) o1.1;have c4:=Aw1 hi;rw[show Fd (Ca i)=true from A2x (by omega)] at c1;have h5:=Bz (Ca i);have h6:=Bz (Ca (i+1));generalize tv (Ca i)=r1 at *
 generalize tv (Ca (i+1))=r2 at *
 repeat' first
 |simp only[go_sem,seval,h5,h6]
 |refine Ae Acl ?_
 |refine Ae c1 ?_
 |refine Ae c2 ?_
 |refine Ai c4 ?_
 |refine Ae c3 ?_
def af108:AF:=⟨22,[(.t 2)],(Ad [oP 2 (.mv (cB false))] (.seq (Ad [Ac 5 0,oP 6 (.len false (.t 5)),oP 7 (.mv (cI 0))] (.blk 0 (.loop (Ad [oP 8 (Bu .lss 7 6)] (.seq (Em 8 0) (.seq (.blk 1 (Ad [Ac 9 7,oP 10 (.iad 5 (.t 5) (.t 7)),oP 11 (Ao 5 10),oP 4 Fe,Ac 3 9,oN (Bn 5 4 11)] (Ad [oP 12 (Ao 5 4),oP 13 (.call 23 [(.t 12)]),oP 14 (.un .not (.t 13)),Ac 15 14,oG 16 15 false 0 (Ao 5 4),oG 17 15 false 0 (.call 55 [(.t 16)]),oG 18 15 false 0 (mT 3),oG 19 15 false 0 (Bu .gtr 17 18),oP 20 (Cx 15 19)] (Ak 20 (Ad [oP 2 (.mv (cB false))] .ret) .skip)))) (Bo [oP 21 (Bi .add 7 1),Ac 7 21]))))))) (Ad [oP 2 (.mv (cB true))] .ret)))⟩
def tr108:trF Tryz.prog Tryz.f108=some af108:=by kernel_rfl
attribute [go_sem] af108
def af115:AF:=⟨14,[(.t 4)],(Ad [oP 3 (.box (.t 1)),oP 4 (.mv (cB false))] (Ad [oP 5 (Ao 5 3),oP 6 (.call 23 [(.t 5)]),Ac 7 6,oG 8 7 true 0 (Ao 5 3),oG 9 7 true 0 (.call 55 [(.t 8)]),oG 10 7 true 0 (mT 0),oG 11 7 true 0 (.len false (.t 10)),oG 12 7 true 0 (Bu .leq 9 11),oP 13 (Bv 7 12),Ac 4 13] .ret))⟩
def tr115:trF Tryz.prog Tryz.f115=some af115:=by kernel_rfl
attribute [go_sem] af115
def af111:AF:=⟨11,[(.t 2)],(Ad [oP 2 (.mv (.c .nilp))] (Ad [Ac 4 0,oP 5 (.call 143 [(.t 4)]),Ac 3 5] (Ad [Ac 6 3,oP 7 (.hcall 144 [(.t 6)]),Ac 8 3,oP 9 (.build [.nilp,(iS 0),.nils] [(0,(1,(.t 7))),(1,(1,(.t 8)))]),oP 10 (.boxg (.t 9)),Ac 2 10] .ret)))⟩
def tr111:trF Tryz.prog Tryz.f111=some af111:=by kernel_rfl
attribute [go_sem] af111
def af178:AF:=⟨6,[(.t 2)],(Ad [oP 2 (.mv (.c .nilp))] (Ad [Ac 3 0,oP 4 (.call 162 [(.t 3)]),oP 5 (.hcall 114 [(.t 4),(.c .nilp)]),Ac 2 5] .ret))⟩
def tr178:trF Tryz.prog Tryz.f178=some af178:=by kernel_rfl
attribute [go_sem] af178
def af148:AF:=⟨6,[],(Ad [Ac 2 0,oP 3 (.un .not (.t 2))] (Ak 3 (Bo [oP 4 (.build [] []),oP 5 (.ifc 160 (.t 4)),oN (.pan (.t 5))]) .skip))⟩
def tr148:trF Tryz.prog Tryz.f148=some af148:=by kernel_rfl
attribute [go_sem] af148
def af112:AF:=⟨24,[(.t 6)],(Ad [oP 4 (.box (.t 1)),oP 6 (.mv (cI 0))] (Ad [Ac 8 0,Ac 9 0,oP 10 (Ao 5 4),Ac 11 2,oP 12 (.hcall 147 [(.t 9),(.t 10),(.t 11)]),oP 13 (.hcall 146 [(.t 8),(.t 12)]),Ac 7 13] (Ad [Ac 14 7,oP 15 (At 14),oP 16 (Af 0 15),oP 17 (Ag 16),oP 18 (Al 17 1),oP 19 (.call 148 [(.t 18)])] (Ad [Ac 20 7,oP 21 (At 20),oP 22 (Af 1 21),oP 23 (Ag 22),Ac 6 23] .ret))))⟩
def tr112:trF Tryz.prog Tryz.f112=some af112:=by kernel_rfl
attribute [go_sem] af112
def af146:AF:=⟨20,[(.t 4)],(Ad [oP 4 (.mv (.c .nilp))] (Cs [Ac 5 0,oI 6 1 (At 5),oI 7 2 (Af 0 6),oI 8 3 (Ag 7),oI 9 4 (mT 0),oI 10 5 (At 9),oI 11 6 (Af 1 10),oI 12 7 (Ag 11),⟨(some 13),(.hcall 175 [(.t 8),(.t 12)]),none,8,false,[8]⟩] (Ad [Ac 14 0,oP 15 (At 14),oP 16 (Af 0 15),oP 17 (Ag 16),Ac 18 1,oP 19 (.hcall 172 [(.t 17),(.t 18)]),Ac 4 19] .ret)))⟩
def tr146:trF Tryz.prog Tryz.f146=some af146:=by kernel_rfl
attribute [go_sem] af146
def af147:AF:=⟨316,[(.t 6)],(Ad [oP 4 (.box (.t 1)),oP 6 (.mv (.c .nilp))] (.seq (Ad [oP 15 (Af 0 4),oP 16 (Ag 15)] (.blk 0 (Ad [oP 18 (Al 16 1),Ac 17 18] (Ak 17 (Ad [oP 19 (Af 1 4),oP 20 (Ag 19),oP 21 (Bi .lss 20 1000),oP 22 (.call 148 [(.t 21)])] (Ad [oP 23 (Af 1 4),oP 24 (Ag 23),oP 25 (Bi .add 24 1),oP 26 (.hcall 178 [(.t 25)]),Ac 6 26] .ret)) (Ad [oP 28 (Al 16 2),Ac 27 28] (Ak 27 (Cs [Ac 29 0,oI 30 1 (At 29),oI 31 2 (Af 2 30),⟨(some 32),(Ag 31),none,3,true,[]⟩,oI 33 4 (mT 0),⟨(some 34),(.hcall 151 [(.t 33)]),none,5,true,[3]⟩,oI 35 6 (Bi .sub 34 1),oI 36 7 (Af 1 4),⟨(some 37),(Ag 36),none,8,false,[5]⟩,oI 38 9 (Bu .sub 35 37),oI 39 10 (.iad 1 (.t 32) (.t 38)),oI 40 11 (Ag 39),oI 6 12 (mT 40)] .ret) (.seq (Ad [oP 42 (Al 16 13),Ac 41 42] (Ak 41 .skip (Bo [oP 43 (Al 16 16),Ac 41 43]))) (Ak 41 (Ad [Ac 45 0,oP 46 (Ao 5 4),Ac 47 2,oP 48 (.hcall 179 [(.t 45),(.t 46),(.t 47)]),Ac 44 48,oP 49 (.ext (.t 44) 0),oP 50 (.ext (.t 44) 1),Ac 7 49,Ac 8 50] (Ad [Ac 51 7,Ac 52 8,oP 53 (.mnx true (.t 51) (.t 52)),oP 54 (.hcall 178 [(.t 53)]),Ac 6 54] .ret)) (Ad [oP 56 (Al 16 14),Ac 55 56] (Ak 55 (Ad [oP 57 (Af 4 4),oP 58 (Ag 57),oP 59 (.iad 5 (.t 58) (cI 0)),oP 60 (Ao 5 59),Ac 61 2,oP 62 (.hcall 114 [(.t 60),(.t 61)]),Ac 9 62] (Ad [Ac 63 0,oP 64 (Af 4 4),oP 65 (Ag 64),oP 66 (.iad 5 (.t 65) (cI 0)),oP 67 (Ao 5 66),Ac 68 2,oP 69 (.hcall 112 [(.t 63),(.t 67),(.t 68)])] (Cs [Ac 70 0,oI 71 1 (Af 4 4),⟨(some 72),(Ag 71),none,2,true,[]⟩,⟨(some 73),(.iad 5 (.t 72) (cI 1)),none,3,true,[]⟩,⟨(some 74),(Ao 5 73),none,4,true,[]⟩,oI 75 5 (mT 0),oI 76 6 (mT 2),oI 77 7 (mT 9),⟨(some 78),(.hcall 113 [(.t 75),(.t 76),(.t 77)]),none,8,false,[2,3,4,8]⟩,⟨(some 79),(.hcall 147 [(.t 70),(.t 74),(.t 78)]),none,9,false,[9]⟩,oI 10 10 (mT 79)] (Cs [Ac 80 0,oI 81 1 (At 80),oI 82 2 (Af 0 81),oI 83 3 (Ag 82),oI 84 4 (mT 0),oI 85 5 (At 84),oI 86 6 (Af 1 85),oI 87 7 (Ag 86),⟨(some 88),(.hcall 175 [(.t 83),(.t 87)]),none,8,false,[8]⟩] (Cs [Ac 89 0,oI 90 1 (At 89),oI 91 2 (Af 0 90),⟨(some 92),(Ag 91),none,3,true,[]⟩,oI 93 4 (mT 10),oI 94 5 (mT 0),⟨(some 95),(.hcall 151 [(.t 94)]),none,6,true,[3]⟩,⟨(some 96),(.hcall 180 [(.t 92),(.t 93),(.t 95)]),none,7,true,[]⟩,⟨(some 11),Fe,none,8,false,[3,6,7]⟩,oJ 9 (Bn 5 11 96)] (Ad [Ac 97 0,oP 98 (.hcall 154 [(.t 97),(cI 1)])] (Ad [Ac 99 9,oP 100 (Ao 5 11),Ac 101 2,oP 102 (.hcall 114 [(.t 100),(.t 101)]),oP 103 (.bslice 1 [(.t 99),(.t 102)]),oP 104 (.build [(iS 0),(iS 0),(iS 0),(iS 0),(iS 0),.nils] [(0,(1,(cI 13))),(5,(1,(.t 103)))]),oP 105 (.box (.t 104)),oP 106 (.hcall 181 [(.t 105)]),Ac 6 106] .ret))))))) (Ad [oP 108 (Al 16 15),Ac 107 108] (Ak 107 (Ad [Ac 109 0,oP 110 (Af 4 4),oP 111 (Ag 110),oP 112 (.iad 5 (.t 111) (cI 0)),oP 113 (Ao 5 112),Ac 114 2,oP 115 (.hcall 182 [(.t 109),(.t 113),(.t 114),(cI 13)]),Ac 12 115] (Cs [Ac 116 0,oI 117 1 (Af 4 4),oI 118 2 (Ag 117),oI 119 3 (.iad 5 (.t 118) (cI 1)),oI 120 4 (Ao 5 119),oI 121 5 (mT 2),oI 122 6 (mT 12),oI 123 7 (At 122),oI 124 8 (Af 5 123),oI 125 9 (Ag 124),oI 126 10 (.iad 1 (.t 125) (cI 0)),oI 127 11 (Ag 126),⟨(some 128),(.hcall 118 [(.t 116),(.t 120),(.t 121),(.t 127)]),none,12,false,[12]⟩] (Cs [Ac 129 12,oI 130 1 (At 129),oI 131 2 (Af 5 130),⟨(some 132),(Ag 131),none,3,true,[]⟩,⟨(some 133),(.iad 1 (.t 132) (cI 1)),none,4,true,[]⟩,⟨(some 134),(Ag 133),none,5,true,[]⟩,oI 135 6 (Af 4 4),oI 136 7 (Ag 135),oI 137 8 (.iad 5 (.t 136) (cI 1)),oI 138 9 (Ao 5 137),oI 139 10 (mT 2),⟨(some 140),(.hcall 114 [(.t 138),(.t 139)]),none,11,false,[3,4,5,11]⟩,⟨(some 141),(.hcall 153 [(.t 134),(.t 140)]),none,12,false,[12]⟩,oI 6 13 (mT 141)] .ret))) (Ad [oP 143 (Al 16 17),Ac 142 143] (Ak 142 (Ad [Ac 144 0,oP 145 (Ao 5 4),Ac 146 2,oP 147 (.hcall 179 [(.t 144),(.t 145),(.t 146)])] (Cs [Ac 148 0,oI 149 1 (Af 4 4),⟨(some 150),(Ag 149),none,2,true,[]⟩,⟨(some 151),(.iad 5 (.t 150) (cI 2)),none,3,true,[]⟩,⟨(some 152),(Ao 5 151),none,4,true,[]⟩,oI 153 5 (mT 2),oI 154 6 (Af 4 4),oI 155 7 (Ag 154),oI 156 8 (.iad 5 (.t 155) (cI 0)),oI 157 9 (Ao 5 156),oI 158 10 (mT 2),⟨(some 159),(.hcall 114 [(.t 157),(.t 158)]),none,11,false,[2,3,4,11]⟩,⟨(some 160),(.hcall 118 [(.t 148),(.t 152),(.t 153),(.t 159)]),none,12,false,[12]⟩] (Cs [Ac 161 0,oI 162 1 (Af 4 4),⟨(some 163),(Ag 162),none,2,true,[]⟩,⟨(some 164),(.iad 5 (.t 163) (cI 3)),none,3,true,[]⟩,⟨(some 165),(Ao 5 164),none,4,true,[]⟩,oI 166 5 (mT 2),oI 167 6 (Af 4 4),⟨(some 168),(Ag 167),none,7,true,[]⟩,⟨(some 169),(.iad 5 (.t 168) (cI 1)),none,8,true,[]⟩,⟨(some 170),(Ao 5 169),none,9,true,[]⟩,oI 171 10 (mT 2),oI 172 11 (Af 4 4),oI 173 12 (Ag 172),oI 174 13 (.iad 5 (.t 173) (cI 2)),oI 175 14 (Ao 5 174),oI 176 15 (mT 2),⟨(some 177),(.hcall 114 [(.t 175),(.t 176)]),none,16,false,[2,3,4,7,8,9,16]⟩,⟨(some 178),(.call 149 [(.t 171),(.t 177)]),none,17,false,[2,3,4,7,8,9]⟩,⟨(some 179),(.hcall 114 [(.t 170),(.t 178)]),none,18,false,[2,3,4,18]⟩,⟨(some 180),(.hcall 118 [(.t 161),(.t 165),(.t 166),(.t 179)]),none,19,false,[19]⟩] (Cs [oP 181 (Af 4 4),oI 182 1 (Ag 181),oI 183 2 (.iad 5 (.t 182) (cI 0)),oI 184 3 (Ao 5 183),oI 185 4 (Af 4 4),oI 186 5 (Ag 185),oI 187 6 (.iad 5 (.t 186) (cI 1)),oI 188 7 (Ao 5 187),oI 189 8 (.bslice 5 [(.t 184),(.t 188)]),oI 190 9 (.call 74 [(cI 16),(cI 0),(cI 0),(cI 0),(.t 189)]),oI 191 10 (mT 2),⟨(some 192),(.hcall 114 [(.t 190),(.t 191)]),none,11,false,[11]⟩,oI 6 12 (mT 192)] .ret)))) (Ad [oP 194 (Al 16 18),Ac 193 194] (Ak 193 (Ad [Ac 195 0,oP 196 (Af 4 4),oP 197 (Ag 196),oP 198 (.iad 5 (.t 197) (cI 0)),oP 199 (Ao 5 198),Ac 200 2,oP 201 (.hcall 182 [(.t 195),(.t 199),(.t 200),(cI 16)]),oP 202 (At 201),oP 203 (Af 5 202),oP 204 (Ag 203),oP 205 (.iad 1 (.t 204) (cI 0)),oP 206 (Ag 205),Ac 6 206] .ret) (Ad [oP 208 (Al 16 19),Ac 207 208] (Ak 207 (Ad [Ac 209 0,oP 210 (Af 4 4),oP 211 (Ag 210),oP 212 (.iad 5 (.t 211) (cI 0)),oP 213 (Ao 5 212),Ac 214 2,oP 215 (.hcall 182 [(.t 209),(.t 213),(.t 214),(cI 16)]),Ac 13 215] (Cs [Ac 216 13,oI 217 1 (At 216),oI 218 2 (Af 5 217),⟨(some 219),(Ag 218),none,3,true,[]⟩,⟨(some 220),(.iad 1 (.t 219) (cI 1)),none,4,true,[]⟩,⟨(some 221),(Ag 220),none,5,true,[]⟩,oI 222 6 (Af 4 4),oI 223 7 (Ag 222),oI 224 8 (.iad 5 (.t 223) (cI 0)),oI 225 9 (Ao 5 224),⟨(some 226),(.bslice 5 [(.t 225)]),none,10,false,[3,4,5]⟩,⟨(some 227),(.call 74 [(cI 18),(cI 0),(cI 0),(cI 0),(.t 226)]),none,11,false,[3,4,5]⟩,oI 228 12 (mT 2),⟨(some 229),(.hcall 114 [(.t 227),(.t 228)]),none,13,false,[3,4,5,13]⟩,⟨(some 230),(.hcall 153 [(.t 221),(.t 229)]),none,14,false,[14]⟩,oI 6 15 (mT 230)] .ret)) (Ad [oP 232 (Al 16 20),Ac 231 232] (Ak 231 (Ad [Ac 233 0,oP 234 (Af 4 4),oP 235 (Ag 234),oP 236 (.iad 5 (.t 235) (cI 0)),oP 237 (Ao 5 236),Ac 238 2,oP 239 (.hcall 112 [(.t 233),(.t 237),(.t 238)]),Ac 14 239] (Cs [Ac 240 0,oI 241 1 (Af 4 4),⟨(some 242),(Ag 241),none,2,true,[]⟩,⟨(some 243),(.iad 5 (.t 242) (cI 1)),none,3,true,[]⟩,⟨(some 244),(Ao 5 243),none,4,true,[]⟩,oI 245 5 (mT 2),oI 246 6 (Af 4 4),oI 247 7 (Ag 246),oI 248 8 (.iad 5 (.t 247) (cI 0)),oI 249 9 (Ao 5 248),oI 250 10 (mT 2),⟨(some 251),(.hcall 114 [(.t 249),(.t 250)]),none,11,false,[2,3,4,11]⟩,⟨(some 252),(.hcall 118 [(.t 240),(.t 244),(.t 245),(.t 251)]),none,12,false,[12]⟩] (Cs [Ac 253 0,oI 254 1 (Af 4 4),⟨(some 255),(Ag 254),none,2,true,[]⟩,⟨(some 256),(.iad 5 (.t 255) (cI 2)),none,3,true,[]⟩,⟨(some 257),(Ao 5 256),none,4,true,[]⟩,oI 258 5 (mT 2),oI 259 6 (Af 4 4),oI 260 7 (Ag 259),oI 261 8 (.iad 5 (.t 260) (cI 0)),oI 262 9 (Ao 5 261),oI 263 10 (mT 2),⟨(some 264),(.hcall 114 [(.t 262),(.t 263)]),none,11,false,[2,3,4,11]⟩,⟨(some 265),(.hcall 118 [(.t 253),(.t 257),(.t 258),(.t 264)]),none,12,false,[12]⟩] (Ad [Ac 266 14,oP 267 (.hcall 178 [(.t 266)]),Ac 6 267] .ret)))) (Ad [oP 269 (Al 16 21),Ac 268 269] (Ak 268 (Ad [Ac 270 0,oP 271 (Af 4 4),oP 272 (Ag 271),oP 273 (.iad 5 (.t 272) (cI 0)),oP 274 (Ao 5 273),Ac 275 2,oP 276 (.hcall 112 [(.t 270),(.t 274),(.t 275)])] (Cs [Ac 277 0,oI 278 1 (Af 4 4),⟨(some 279),(Ag 278),none,2,true,[]⟩,⟨(some 280),(.iad 5 (.t 279) (cI 1)),none,3,true,[]⟩,⟨(some 281),(Ao 5 280),none,4,true,[]⟩,oI 282 5 (mT 2),oI 283 6 (Af 4 4),oI 284 7 (Ag 283),oI 285 8 (.iad 5 (.t 284) (cI 0)),oI 286 9 (Ao 5 285),oI 287 10 (mT 2),⟨(some 288),(.hcall 114 [(.t 286),(.t 287)]),none,11,false,[2,3,4,11]⟩,⟨(some 289),(.hcall 118 [(.t 277),(.t 281),(.t 282),(.t 288)]),none,12,false,[12]⟩] (Cs [oP 290 (Af 4 4),oI 291 1 (Ag 290),oI 292 2 (.iad 5 (.t 291) (cI 0)),oI 293 3 (Ao 5 292),oI 294 4 (Af 4 4),oI 295 5 (Ag 294),oI 296 6 (.iad 5 (.t 295) (cI 1)),oI 297 7 (Ao 5 296),oI 298 8 (Af 4 4),oI 299 9 (Ag 298),oI 300 10 (.iad 5 (.t 299) (cI 1)),oI 301 11 (Ao 5 300),oI 302 12 (.bslice 5 [(.t 293),(.t 297),(.t 301)]),oI 303 13 (.call 74 [(cI 20),(cI 0),(cI 0),(cI 0),(.t 302)]),oI 304 14 (mT 2),⟨(some 305),(.hcall 114 [(.t 303),(.t 304)]),none,15,false,[15]⟩,oI 6 16 (mT 305)] .ret))) (Ad [oP 307 (Al 16 22),Ac 306 307] (Ak 306 (Ad [Ac 308 0,oP 309 (Ao 5 4),Ac 310 2,oP 311 (.hcall 183 [(.t 308),(.t 309),(.t 310)]),Ac 6 311] .ret) .skip)))))))))))))))))))))))) (Ad [Ac 312 0,oP 313 (Ao 5 4),Ac 314 2,oP 315 (.hcall 184 [(.t 312),(.t 313),(.t 314)]),Ac 6 315] .ret)))⟩
def tr147:trF Tryz.prog Tryz.f147=some af147:=by kernel_rfl
attribute [go_sem] af147
def af117:AF:=⟨22,[(.t 4)],(Ad [oP 4 (.mv (.c .nilp))] (Ad [oP 5 (.mv (.c .nilp))] (.seq (Ad [Ac 8 1,oP 9 (.len false (.t 8)),oP 10 (.mv (cI 0))] (.blk 0 (.loop (Ad [oP 11 (Bu .lss 10 9)] (.seq (Em 11 0) (.seq (.blk 1 (Ad [oP 12 (.iad 5 (.t 8) (.t 10)),oP 13 (Ao 5 12),oP 7 Fe,oN (Bn 5 7 13)] (Bo [Ac 14 0,Ac 15 5,oP 16 (Ao 5 7),Ac 17 5,oP 18 (.hcall 114 [(.t 16),(.t 17)]),oP 19 (.hcall 113 [(.t 14),(.t 15),(.t 18)]),Ac 5 19]))) (Bo [oP 20 (Bi .add 10 1),Ac 10 20]))))))) (Ad [Ac 21 5,Ac 4 21] .ret))))⟩
def tr117:trF Tryz.prog Tryz.f117=some af117:=by kernel_rfl
attribute [go_sem] af117
def Axm(cap:Array Value)(w:World):(invoke (.fn (.func 109) cap) #[]).run Tryz.prog w=.ok (.enter 109 cap) w:=by
 simp[go_sem]
def Axl(cap:Array Value)(w:World):(invoke (.fn (.func 116) cap) #[]).run Tryz.prog w=.ok (.enter 116 cap) w:=by
 simp[go_sem]
def Ahh:Con 108 [.dsl 5 []] (.bool true):=by
 refine Bt mixed Tryz.func108 tr108 ?_
 repeat' first
 |simp only[go_sem,seval]
 |refine Ff 1 (Bk ?_)
def Ahg{i:Nat}(hi:i<=1000):Con 115 [.dsl 5 [],.agg true (tv (Ca i))] (.bool true):=by
 have o:=Qp hi;have c1:=p8 (Ca i) o.1;rw[Amp hi] at c1;have c2:=Qx (Ca i) o.1 (by omega);rw[o.2.2.1] at c2;have h5:=Bz (Ca i);generalize tv (Ca i)=r at *
 refine Bt mixed Tryz.func115 tr115 ?_
 repeat' first
 |simp only[go_sem,seval,h5]
 |refine Ae c1 ?_
 |refine Ae c2 ?_
def Acn:Con 148 [.bool true] (.tup []):=by
 refine Bt mixed Tryz.func148 tr148 ?_
 repeat' first
 |simp only[go_sem,seval]
def Kh(m:Nat):List SV:=[.gp m 0,.int .i64 9,.nils]
def Ai6(G:GV):Dc 111 G [.float .f64 4621256167635550208] (.ret (.gp (G.length+2) 0)) (G++[[.undef],Ee 0 9 0 0 G.length]++[Kh (G.length+1)]):=by
 have hn:=Ai9 G 9;refine Cl mixed Tryz.func111 tr111 ?_
 repeat' first
 |simp only[go_sem,seval,Kh]
 |refine Ae Ahi ?_
 |refine Ai hn ?_
def Awg(G:GV)(c:Nat):Dc 117 G [.gp c 0,.dsl 5 []] (.ret (Eu [])) G:=by
 refine Cl mixed Tryz.func117 tr117 ?_
 repeat' first
 |simp only[go_sem,seval,Qz]
 |refine Ff 1 (Bk ?_)
def Gd(i:Nat)(v w:Option Vl):List SV:=thR ⟨Ca i,[],false,v,w⟩
def Awz(G:GV)(i:Nat):Dc 178 G [.int .i64 i] (.ret (.gp G.length 0)) (G++[Gd i none none]):=by
 have hs:=Ahv (i:Int);have hc:=Ya G (Ca i) [];rw[show (Tm.mk 1 (i:Int) 0 0 [])=Ca i from rfl] at hs;have h5:=Bz (Ca i);unfold Gd;generalize thR ⟨Ca i,[],false,none,none⟩=ta at *
 generalize tv (Ca i)=r at *
 refine Cl mixed Tryz.func178 tr178 ?_
 repeat' first
 |simp only[go_sem,seval,h5,Qz]
 |refine Ae hs ?_
 |refine Ai hc ?_
def Ai7{G:GV}{c:Nat}{i:Nat}(hi:i<=900):Dc 147 G [.gp c 0,.agg true (tv (Ca i)),Eu []] (.ret (.gp G.length 0)) (G++[Gd (i+1) none none]):=by
 have hs:=Awz G (i+1);generalize Gd (i+1) none none=ta at *
 have e2:IntKind.i64.wrap ((i:Int)+1)=((i+1:Nat):Int):=by rw[w64 (n:=(i:Int)+1) (by unfold fit;omega)];omega
 have e3:((i:Int)<1000)=True:=by simp;omega
 refine Cl mixed Tryz.func147 tr147 ?_;unfold Ca;rw[Bp]
 repeat' first
 |simp only[go_sem,seval,e2,e3,q_i]
 |refine Ae Acn ?_
 |refine Ai hs ?_
def sVl(i:Nat):Vl:=⟨1,i,0,0,0,[]⟩
def Aw2{G:GV}{m id i:Nat}(h:G[id]?=some (Gd i none none)):Dc 201 G [.gp m 0,.gp id 0] (.ret (vlV (sVl i))) (G.set id (Gd i (some (sVl i)) none)):=
 A5k (th:=⟨Ca i,[],false,none,none⟩) (th1:=⟨Ca i,[],false,none,none⟩) h rfl rfl (by
  have:=Avf (G:=G) (m:=m) (k:=1) (i:=i) (j:=0) (n:=0) (l:=[]) (e:=[]) (by simp) (by omega) (by omega);simpa [Je,Aa5,sVl,Ca] using Awk this) h
def Awp{G:GV}{c m id i j:Nat}{steps most seen guess:Int}(hc:G[c]?=some (Kh m))(hG:G[m]?=some (Ee steps most seen guess j))(h:G[id]?=some (Gd i none none))(Dj:m≠id)(Rj:c≠m) :
  Dc 146 G [.gp c 0,.gp id 0] (.ret (vlV (sVl i))) ((G.set m (Ee 0 9 0 guess j)).set id (Gd i (some (sVl i)) (some (sVl i)))):=by
 have h1:=Aja hG 9;have Aq:id<G.length:=Afc h;have g1:(G.set m (Ee 0 9 0 guess j))[id]?=some (Gd i none none):=by rw[q_jc Dj];exact h
 have g2:(G.set m (Ee 0 9 0 guess j))[c]?=some (Kh m):=by rw[q_jc (Ne.symm Rj)];exact hc
 have hw:=Aw2 (m:=m) g1;have g3:((G.set m (Ee 0 9 0 guess j)).set id (Gd i (some (sVl i)) none))[id]?=some (Gd i (some (sVl i)) none):=q_jq (by rw[List.length_set];exact Aq);have hh:=Aw9 (m:=m) (th:=⟨Ca i,[],false,none,none⟩) (th1:=⟨Ca i,[],false,some (sVl i),none⟩) (v:=sVl i) g1 rfl hw g3 (.base (show (1:Int)≠23 by decide) (show (1:Int)≠15/\(1:Int)≠18/\(1:Int)≠19/\(1:Int)≠22 by decide));rw[Zx] at hh;refine Cl mixed Tryz.func146 tr146 ?_;unfold Kh at hc g2;unfold Gd at *
 repeat' first
 |simp only[go_sem,seval,hc,g2]
 |refine Ai h1 ?_
 |refine Ai hh ?_
def kG0:GV:=[[.undef],Ee 0 9 0 0 0,Kh 1]
def kG1:GV:=[[.undef],Ee 0 9 0 0 0,Kh 1,Gd 2 (some (sVl 2)) (some (sVl 2))]
def kG2:GV:=[[.undef],Ee 0 9 0 0 0,Kh 1,Gd 2 (some (sVl 2)) (some (sVl 2)),Gd 1 none none]
def kG3:GV:=[[.undef],Ee 0 9 1 0 0,Kh 1,Gd 2 (some (sVl 2)) (some (sVl 2)),Gd 1 none none,Gd 1 none none]
def Awq:Dc 112 kG0 [.gp 2 0,.agg true (tv (Ca 1)),Eu []] (.ret (.int .i64 2)) kG1:=by
 have h1:=Ai7 (G:=kG0) (c:=2) (i:=1) (by omega);have h2:=Awp (G:=kG0++[Gd 2 none none]) (c:=2) (m:=1) (id:=3) (i:=2) (j:=0) (steps:=0) (most:=9) (seen:=0) (guess:=0) rfl rfl rfl (by omega) (by omega);have e:((kG0++[Gd 2 none none]).set 1 (Ee 0 9 0 0 0)).set 3 (Gd 2 (some (sVl 2)) (some (sVl 2)))=kG1:=rfl;rw[e] at h2;have h5:=Bz (Ca 1);have e3:kG0.length=3:=rfl;rw[e3] at h1;refine Cl mixed Tryz.func112 tr112 ?_;generalize kG1=G1 at *
 generalize kG0++[Gd (1+1) none none]=Ga at *
 generalize kG0=G0 at *
 generalize tv (Ca 1)=r at *
 unfold sVl vlV at h2
 repeat' first
 |simp only[go_sem,seval,h5]
 |refine Ai h1 ?_
 |refine Ai h2 ?_
 |refine Ae Acn ?_
def Xp{m:Mem}{v:Value}{i c:Nat}(h:Rep m v (.gp i c)):∃b,m.d i=some b/\v=.pointer (some ⟨b,c,none⟩):=by
 cases h with
 |gp i c b h1 h2=>exact⟨b,h1,rfl⟩
def Ame{m:Mem}{w:World}{G:GV}{i b:Nat}{r:List SV}(h:GSat m w G)(hG:G[i]?=some r)(hd:m.d i=some b)(hr:∀l,r≠Of l):∀(k:Nat) x,r[k]?=some x->∃v,w.cell? ⟨b,k,none⟩=some v/\Rep m v x:=by
 intro k x hx;have Cv:=h.row i r b hG hd;generalize hz:r=z at Cv;cases Cv with
 |map es k l=>exact absurd hz (hr l)
 |cells _ c e h1 h2 h3 h4=>
  subst hz;have hk:k<r.length:=(q_jm.1 hx).1;have Ek:k<c.size:=by omega
  refine⟨c[k],?_,(h3 k _ x (Array.getElem?_eq_getElem Ek) hx).1⟩;rw[Lib.cell_of_heap h1 k];exact Array.getElem?_eq_getElem Ek
def A2z{m:Mem}{i:Nat}{v:Value}(h:Rep m v (.agg true (tv (Ca i)))):∃A q,v=.agg #[.int .i64 1,.int .i64 i,.int .i64 0,.int .i64 0,.slice A 0 q]:=by
 rw[show tv (Ca i)=[.int .i64 1,.int .i64 i,.int .i64 0,.int .i64 0,.dsl 5 []] by unfold Ca;rw[Bp];rfl] at h;generalize hz:SV.agg true [.int .i64 1,.int .i64 i,.int .i64 0,.int .i64 0,.dsl 5 []]=z at h;cases h with
 |agg vs l h0 hl hr=>
  cases hz
  match vs,hl with
  |[a,b,c,d,e],_=>
   have ha:=hr 0 a _ rfl rfl;have hb:=hr 1 b _ rfl rfl;have hc:=hr 2 c _ rfl rfl;have hd:=hr 3 d _ rfl rfl;have he:=hr 4 e _ rfl rfl;cases ha;cases hb;cases hc;cases hd;generalize hy:SV.dsl 5 []=y at he;cases he with
   |dsl0 sz A cap=>exact⟨A,cap,rfl⟩
   |dsl sz l cap b off vs h1 h2=>
    cases hy;exact⟨_,_,rfl⟩
   |_=>cases hy
 |_=>cases hz
def Asd{b:Nat}{w:World}(h:w.cell? ⟨b,2,none⟩=some (.slice none 0 0)):Calls Tryz.prog 151 #[.pointer (some ⟨b,0,none⟩)] w fun e w'=>e=.returned (.int .i64 0)/\w'=w:=by
 go_enter Tryz.func151,Tryz.ntmps151
 go_wp2
 all_goals
  go_ret
  exact⟨rfl,rfl⟩
def Awc{m:Mem}{w w':World}{G:GV}(h:GSat m w G)(k:Below w.heap.size w w'):GSat m w' G:=
 ⟨h.dom,h.inj,fun i r b hi hd=>(h.row i r b hi hd).mono (.refl m) (k.block b (h.lt hd)),h.free⟩
def Aam{m m1 m2:Mem}{w w1 w2:World}{G1 G2:GV}(h:Lo m w m1 w1 G1)(k:Lo m1 w1 m2 w2 G2):Lo m w m2 w2 G2:=by
 obtain⟨a1,a2,a3,a4,a5,a6,a7,a8,a9,a10⟩:=h;obtain⟨b1,b2,b3,b4,b5,b6,b7,b8,b9,b10⟩:=k;refine⟨a1.trans b1,fun b j hb=>(b2 b j (by omega)).trans (a2 b j hb),b3,b4,fun i b hi=>?_,b6.trans a6,b7.trans a7,b8.trans a8,q_ko a9 b9,fun k hk hn=>?_⟩
 ·rcases b5 i b hi with h|h
  ·exact a5 i b h
  ·exact .inr (by omega)
 ·rw[b10 k (by omega) (fun i hi=>by rcases a5 i k hi with h|h;exact hn i h;omega)];exact a10 k hk hn
def Aj4{m:Mem}{w w1:World}{G:GV}(hm:Fk m w)(hs:GSat m w G)(k:Below w.heap.size w w1):Lo m w m w1 G:=
 ⟨.refl m,fun _ _ _=>rfl,Aa1 hm k,Awc hs k,fun i b hi=>.inl hi,k.os,k.tape,k.output,k.size,fun j hj _=>k.block j hj⟩
def Ahm{f:Nat}{args:List SV}{r:SV}(hc:Con f args r){m:Mem}{w:World}{G:GV}(hm:Fk m w)(hs:GSat m w G)(vs:List Value)(hl:vs.length=args.length)(hr:∀(j:Nat) v x,vs[j]?=some v->args[j]?=some x->Rep m v x) :
  Calls Tryz.prog f vs.toArray w fun e w'=>∃v m',e=.returned v/\Rep m' v r/\Lo m w m' w' G:=by
 refine Calls.mono (hc m w vs hm hl hr) (fun e w' h=>?_);obtain⟨v,m',h1,h2,⟨h3,Sp⟩,h4,h5,h6,h7,h8,h9,w7⟩:=h;refine⟨v,m',h1,h2,h3,h4,h5,⟨fun i=>by rw[Sp];exact hs.dom i,fun i j b=>by rw[Sp];exact hs.inj i j b,fun i r b hi hd=>?_,fun i b j hd=>?_⟩,fun i b hi=>.inl (by rw[<-Sp];exact hi),h6,h7,h8,h9,fun k hk _=>w7 k hk⟩
 ·rw[Sp] at hd;exact (hs.row i r b hi hd).mono h3 (w7 b (hs.lt hd))
 ·rw[Sp] at hd;rw[h4 b j (hs.lt hd)];exact hs.free i b j hd
def Awo:Dc 118 kG2 [.gp 2 0,.agg true (tv (Ca 0)),Eu [],.gp 4 0] (.ret (.tup [])) kG3:=by
 have h1:=Ai7 (G:=kG2) (c:=2) (i:=0) (by omega);have o1:=Qp (i:=1) (by omega);have h3:=Ai8 (G:=kG2++[Gd 1 none none]) (m:=1) (j:=0) (a:=5) (b:=4) (deep:=0) (steps:=0) (most:=9) (seen:=0) (guess:=0) rfl
  (Amh (m:=1) (j:=0) (steps:=0) (most:=9) (seen:=0) (guess:=0) (wx:=none) (ux:=none) (wy:=none) (uy:=none) (t:=Ca 1) rfl (by unfold fit;omega) (by omega) (by omega) (by omega) (by omega) rfl rfl o1.1)
 have e:((kG2++[Gd 1 none none]).set 1 (Ee 0 9 0 0 0)).set 1 (Ee 0 9 (0+1) (Pt 0) 0)=kG3:=rfl;rw[e] at h3;rw[show kG2.length=5 from rfl] at h1;have ck0:kG2[2]?=some (Kh 1):=rfl;have ck1:(kG2++[Gd 1 none none])[2]?=some (Kh 1):=rfl;have ck3:kG3[2]?=some (Kh 1):=rfl;have hl2:kG2.length=5:=rfl;have hnm:∀l,Kh 1≠Of l:=fun l h=>by unfold Kh Of at h;cases l<;>simp at h
 have cm:=Acn;generalize kG3=G3 at *
 generalize hGa:kG2++[Gd (0+1) none none]=Ga at *
 generalize kG2=G2 at *
 intro m w vs hmem hsat Bl Cu
 match vs,Bl with
 |[a,b,c,d],_=>
  obtain⟨b2,Rl,rfl⟩:=Xp (Cu 0 a _ rfl rfl);have hb:=Cu 1 b _ rfl rfl;have hc:=Cu 2 c _ rfl rfl;obtain⟨b4,hd4,rfl⟩:=Xp (Cu 3 d _ rfl rfl);obtain⟨A,q,rfl⟩:=A2z hb;rw[Qz] at hc h1;cases hc;have hb1:∃b1,m.d 1=some b1:=(hsat.dom 1).1 (by rw[hl2];omega);obtain⟨b1,hd1⟩:=hb1;have k1:Below w.heap.size w (w.alloc (.cells #[.int .i64 1,.int .i64 (0:Nat),.int .i64 0,.int .i64 0,.slice A 0 q] 25)):=(Below.refl _ w).alloc (q_ja _) _;have p1:=Aj4 hmem hsat k1
  go_enter Tryz.func118,Tryz.ntmps118
  have Ny:∀(j:Nat) v x,([.pointer (some ⟨b2,0,none⟩),.agg #[.int .i64 1,.int .i64 (0:Nat),.int .i64 0,.int .i64 0,.slice A 0 q],.pointer none]:List Value)[j]?=some v->([.gp 2 0,.agg true (tv (Ca 0)),.nilp]:List SV)[j]?=some x->Rep m v x:=fun j v x hv hx=>by
   match j,hv,hx with
   |0,hv,hx=>cases hv;cases hx;exact Cu 0 _ _ rfl rfl
   |1,hv,hx=>cases hv;cases hx;exact hb
   |2,hv,hx=>cases hv;cases hx;exact .nilp
   |j+3,hv,hx=>simp at hx
  go_wp2_with (go_at_call 147;refine (h1 m _ [.pointer (some ⟨b2,0,none⟩),.agg #[.int .i64 1,.int .i64 (0:Nat),.int .i64 0,.int .i64 0,.slice A 0 q],.pointer none] p1.2.2.1 p1.2.2.2.1 rfl Ny).mono ?_)
  rintro e W2 ⟨m2,⟨v,rfl,hv⟩,p2⟩;obtain⟨b5,hd5,rfl⟩:=Xp hv;have pp:=Aam p1 p2;have rc:=Ame p2.2.2.2.1 ck1 (p2.1.d _ _ Rl) hnm;obtain⟨v0,c0,r0⟩:=rc 0 _ rfl;obtain⟨v1,c1,r1⟩:=rc 1 _ rfl;obtain⟨v2,c2,r2⟩:=rc 2 _ rfl;obtain⟨b1',Rk,rfl⟩:=Xp r0;have e1:b1'=b1:=by have:=p2.1.d _ _ hd1;rw[Rk] at this;exact Option.some.inj this
  subst e1;cases r1;cases r2;clear rc;generalize w.alloc (.cells #[.int .i64 1,.int .i64 (0:Nat),.int .i64 0,.int .i64 0,.slice A 0 q] 25)=W1 at *
  have hr3:∀(j:Nat) v x,([.pointer (some ⟨b1',0,none⟩),.pointer (some ⟨b5,0,none⟩),.pointer (some ⟨b4,0,none⟩),.int .i64 0,.int .i64 9]:List Value)[j]?=some v->([.gp 1 0,.gp 5 0,.gp 4 0,.int .i64 0,.int .i64 9]:List SV)[j]?=some x->Rep m2 v x:=fun j v x Cw hx=>by
   match j,Cw,hx with
   |0,Cw,hx=>cases Cw;cases hx;exact r0
   |1,Cw,hx=>cases Cw;cases hx;exact hv
   |2,Cw,hx=>cases Cw;cases hx;exact (Cu 3 _ _ rfl rfl).mono pp.1
   |3,Cw,hx=>cases Cw;cases hx;exact .int _ _
   |4,Cw,hx=>cases Cw;cases hx;exact .int _ _
   |j+5,Cw,hx=>simp at hx
  have pd:Lo m2 W2 m2 W2.drew Ga:=Aj4 p2.2.2.1 p2.2.2.2.1 ⟨rfl,rfl,rfl,q_ja _,fun _ _=>rfl⟩;have pw:=Aam pp pd;have c3:=h3 m2 W2.drew [.pointer (some ⟨b1',0,none⟩),.pointer (some ⟨b5,0,none⟩),.pointer (some ⟨b4,0,none⟩),.int .i64 0,.int .i64 9] pd.2.2.1 pd.2.2.2.1 rfl hr3;have hd2':=p2.1.d _ _ Rl;have c0':W2.drew.cell? ⟨b2,0,none⟩=some (.pointer (some ⟨b1',0,none⟩)):=c0;have c1':W2.drew.cell? ⟨b2,1,none⟩=some (.int .i64 9):=c1;have c2':W2.drew.cell? ⟨b2,2,none⟩=some (.slice none 0 0):=c2;have cd:=Asd c2';have key:∀(W3:World) (m3:Mem),Lo m2 W2.drew m3 W3 G3->W3.cell? ⟨b2,0,none⟩=some (.pointer (some ⟨b1',0,none⟩))/\W3.cell? ⟨b2,1,none⟩=some (.int .i64 9):=fun W3 m3 p3=>by
   have rc:=Ame p3.2.2.2.1 ck3 (p3.1.d _ _ hd2') hnm;obtain⟨v0,d0,q0⟩:=rc 0 _ rfl;obtain⟨v1,d1,q1⟩:=rc 1 _ rfl;obtain⟨b1x,hdx,rfl⟩:=Xp q0;have e1:b1x=b1':=by have:=p3.1.d _ _ Rk;rw[hdx] at this;exact Option.some.inj this
   subst e1;cases q1;exact⟨d0,d1⟩
  have cmx:∀(W3:World) (m3:Mem),Lo m2 W2.drew m3 W3 G3->Calls Tryz.prog 148 #[.bool true] W3 fun e w'=>∃v m',e=.returned v/\Rep m' v (.tup [])/\Lo m3 W3 m' w' G3:=fun W3 m3 p3=>Ahm cm p3.2.2.1 p3.2.2.2.1 [.bool true] rfl (fun j v x Cw hx=>by
   match j,Cw,hx with
   |0,Cw,hx=>cases Cw;cases hx;exact .bool _
   |j+1,Cw,hx=>simp at hx)
  clear h1 h3 Ny hr3 Cu hb p1 k1 hsat hmem
  go_wp2_with fail
  go_region_held3 (fun w'=>w'.cell? ⟨b2,0,none⟩=some (.pointer (some ⟨b1',0,none⟩))/\w'.cell? ⟨b2,1,none⟩=some (.int .i64 9)) (first|exact⟨c0',c1'⟩|assumption)
   (first
    |(go_at_call 151;refine cd.mono ?_;rintro e w' ⟨rfl,rfl⟩)
    |(go_at_call 145;refine c3.mono ?_;rintro e W3 ⟨m3,⟨v3,rfl,hv3⟩,p3⟩;cases hv3;have k3:=key W3 m3 p3)
    |(go_at_call 148;refine (cmx W3 m3 p3).mono ?_;rintro e W4 ⟨v4,m4,rfl,hv4,p4⟩;cases hv4;have p5:=Aam p3 p4;have k4:=key W4 m4 p5))
  go_wp2
  go_returns
  exact⟨m4,⟨_,rfl,.tup [] [] rfl (fun j v x h=>by simp at h)⟩,Aam pw p5⟩
def Aqa:Con 70 [.dsl 5 [],.float .f64 4621256167635550208] (.int .i64 0):=by
 refine Xf mixed Tryz.func70 tr70 Axm Nrm.idle_kctx (fun x hx=>?_) (.int _ _) ?_
 ·simp only[q_kb,q_kc,or_false] at hx;rcases hx with rfl|rfl
  ·exact .dsl _ _ (by simp)
  ·exact .float _ _
 have hb:=Ai6 []
 repeat' first
 |simp only[go_sem,seval]
 |refine Ae Ahh ?_
 |refine Ai hb ?_
 |refine Ff 1 (Bk ?_)
def Ap9:Con 72 [.dsl 5 [],.agg true (tv (Ca 0)),.agg true (tv (Ca 1)),.float .f64 4621256167635550208] (.int .i64 0):=by
 refine Xf mixed Tryz.func72 tr72 Axl Nrm.idle_kcheck (fun x hx=>?_) (.int _ _) ?_
 ·simp only[q_kb,q_kc,or_false] at hx;rcases hx with rfl|rfl|rfl|rfl
  ·exact .dsl _ _ (by simp)
  ·exact Qm _ true
  ·exact Qm _ true
  ·exact .float _ _
 have hb:=Ai6 [];have ha:=Awg kG0 2;have hs:=Awq;have hc:=Ya kG1 (Ca 1) [];have hh:=Awo;have i0:=Ahg (i:=0) (by omega);have i1:=Ahg (i:=1) (by omega);have e1:kG1++[thR ⟨Ca 1,[],false,none,none⟩]=kG2:=rfl;rw[e1,show kG1.length=4 from rfl] at hc;have e0:([]:GV)++[[.undef],Ee 0 9 0 0 ([]:GV).length]++[Kh (([]:GV).length+1)]=kG0:=rfl;rw[e0] at hb;have h5:=Bz (Ca 0);have h6:=Bz (Ca 1);generalize kG0=G0 at *
 generalize kG1=G1 at *
 generalize kG2=G2 at *
 generalize kG3=G3 at *
 generalize tv (Ca 0)=r0 at *
 generalize tv (Ca 1)=r1 at *
 rw[Qz] at *
 repeat' first
 |simp only[go_sem,seval,h5,h6,List.length_nil]
 |refine Ae Ahh ?_
 |refine Ae i0 ?_
 |refine Ae i1 ?_
 |refine Ai hb ?_
 |refine Ai ha ?_
 |refine Ai hs ?_
 |refine Ai hc ?_
 |refine Ai hh ?_
end Go.Proofs.YtgfehkhcmnfpaaaGreatDoor.Abs
