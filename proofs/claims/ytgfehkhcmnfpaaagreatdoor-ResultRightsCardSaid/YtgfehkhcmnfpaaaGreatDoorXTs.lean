import Derived.Test.YtgfehkhcmnfpaaaGreatDoorXDo
import Derived.Test.YtgfehkhcmnfpaaaGreatDoorProg
import Derived.KernelRfl
import Derived.Test.YtgfehkhcmnfpaaaGreatDoorXEv
import Derived.Test.YtgfehkhcmnfpaaaGreatDoorXQi
import Derived.Ground.NamesProg
import Derived.Shelf.Strings.Builder1
set_option linter.all false
set_option maxRecDepth 20000
set_option maxHeartbeats 4000000
namespace Go.Proofs.YtgfehkhcmnfpaaaGreatDoor.Abs
open Go Go.RowKit
section
variable{P:Program}
def Aqn{f:Nat}{fn:Func}{c:Code}{ac:AC}{ars:List AR}{t gf k:Nat}{G G':GV}{args:List SV}{r:SV}(hm:P.follows .mixedOrders=true)(hf:P.funcs[f]?=some fn)(hb:fn.body=some c)(hD:TrD P t gf k c ac)(Gq:trR P fn.results.toList=some ars)
  (Ql:∀(cap:Array Value) (w:World),(invoke (.fn (.func gf) cap) #[]).run P w=.ok (.enter gf cap) w) (Qk:∀(cap:Array Value) (w:World),cap.size=k->CallsD P gf cap .returning w fun e u' w'=>u'=.returning/\e=.returned (.tuple #[])/\w'=w)
  (h:vc (Dy P fun _ _=>False) ac (rtG ars (.ret r) G') { sl:=args++List.replicate (fn.ntmps-args.length) .undef,hp:=[gOb G] }):HContract P f G args (.ret r) G':=by
 intro m w vs hmem hsat Bf Cm
 let own:Nat->Prop:=fun b=>∃i,m.d i=some b
 let E0:Env:={ m:=m,m0:=m,H:=fun _=>none,β:=fun _=>0,t:=fun _=>0 }
 have hW:W w own E0 w:=⟨rfl,rfl,rfl,q_ja _,fun _ _ _=>rfl,hmem.1,fun o ob ho=>(by cases ho),fun o o' ob ob' ho=>(by cases ho),fun _ _ _ _=>rfl,hmem.2.1,hmem.2.2.tb (fun b v hv hi=>by obtain⟨i,hi⟩:=hi;rw[hsat.free i b 0 hi] at hv;cases hv)⟩
 have hS:SR w own m (fun _=>True) [] E0 (some G) { sl:=args++List.replicate (fn.ntmps-args.length) .undef,hp:=[gOb G] } { tmps:=vs.toArray++Array.replicate (fn.ntmps-vs.toArray.size) undef,defers:=[] } w:=by
  refine⟨hW,⟨rfl,hsat,fun i b hi=>.inr ⟨i,hi⟩,fun i b o ob _ ho=>by cases ho⟩,fun o=>?_,by simp[Bf],Vy Bf Cm,rfl,rfl,.refl _,(fun h=>by cases h),fun _=>trivial⟩;cases o with
  |zero=>rfl
  |succ o=>rfl
 refine calls_of_wp_defers hf hb ?_
 -- what is there at an end
 have tail:∀(E:Env) (w':World),W w own E w'->GI w.heap.size own E w' G'->m.le E.m->E.m0=m->m.le E.m/\(∀b j,b<w.heap.size->E.m b j=m b j)/\Gf E.m w'/\GSat E.m w' G' /\
   (∀i b,E.m.d i=some b->m.d i=some b\/w.heap.size<=b)/\w'.os=w.os/\w'.tape=w.tape/\w'.output=w.output/\w.heap.size<=w'.heap.size/\∀k,k<w.heap.size->(∀i,m.d i≠some k)->w'.heap[k]?=w.heap[k]?:=by
  intro E w' hW hg hle hz;refine⟨hle,fun b j hb=>?_,⟨hW.mem,hW.pl,hW.tab⟩,hg.sat,fun i b hi=>?_,hW.os,hW.tape,hW.output,hW.size,fun k hk hn=>hW.block k hk (fun ⟨i,hi⟩=>hn i hi)⟩
  ·by_cases ho:own b
   ·obtain⟨i,hi⟩:=ho;rw[hsat.free i b j hi,hg.sat.free i b j (hle.d _ _ hi)]
   ·rw[hW.keep b j hb ho,hz]
  ·rcases hg.new i b hi with h|⟨i',Cy⟩
   ·exact .inr h
   ·have:=hg.sat.inj i i' b hi (hle.d _ _ Cy);subst this;exact .inl Cy
 have fin:∀(Df:List Deferred) (E:Env) (g:Option (GV)) (s:St) (a:Act) (w':World),SR w own m (fun _=>True) Df E g s a w'->Mj ars r G' s->∃v,(results fn a.tmps).run P w'=.ok v w'/\∃m',Oj m' (.returned v) (.ret r)/\m.le m'/\(∀b j,b<w.heap.size->m' b j=m b j)/\Gf m' w'/\GSat m' w' G' /\
   (∀i b,m'.d i=some b->m.d i=some b\/w.heap.size<=b)/\w'.os=w.os/\w'.tape=w.tape/\w'.output=w.output/\w.heap.size<=w'.heap.size/\∀k,k<w.heap.size->(∀i,m.d i≠some k)->w'.heap[k]?=w.heap[k]?:=by
  intro Df E g s a w' hS hr;unfold Mj at hr;split at hr;rotate_left
  ·exact hr.elim
  rename_i p svs hp' Ji;obtain⟨hp,Qq,hG⟩:=hr;obtain⟨us,E',k1,k2,k3,k4,k5⟩:=Tl fn.results.toList ars p svs hp' E s Gq Ji hp hS;have:=Lp (U:=fun _=>True) (s:={ s with hp:=hp' }) (fun o _=>k4.hp o) trivial k4.wo hG;subst this;exact⟨_,Tj k1,E'.m,⟨_,rfl,Tf Qq k2 k3⟩,tail E' w' k4.wo k4.gx k4.le k4.z⟩
 refine Ade (X:=fun _ _=>False) hm hD (fun _ _ _ _ _ _ h=>h.elim) (fun _ _ _ _ _ _ _ _ h=>h.elim) (fun e E g s a w' hS he=>?_) (fun cap Nr e E g s a w' hS he=>?_) E0 (some G) _ _ w hS h
 ·have hd:=hS.dfr;cases e with
  |normal=>simp only[AE.ex,bodyPostD,hd,Leaves];exact fin _ E g s a w' hS he
  |exit id=>exact he.elim
  |ret=>simp only[AE.ex,bodyPostD,hd,Leaves];exact fin _ E g s a w' hS he
 ·have hd:=hS.dfr;have key:Mj ars r G' s->Leaves P fn a.tmps (fun e w'=>∃m',Oj m' e (.ret r)/\m.le m'/\(∀b j,b<w.heap.size->m' b j=m b j)/\Gf m' w'/\GSat m' w' G' /\
   (∀i b,m'.d i=some b->m.d i=some b\/w.heap.size<=b)/\w'.os=w.os/\w'.tape=w.tape/\w'.output=w.output/\w.heap.size<=w'.heap.size/\∀k,k<w.heap.size->(∀i,m.d i≠some k)->w'.heap[k]?=w.heap[k]?) [Rx gf cap] .returning w':=by
   intro he;refine leaves_cons (f:=gf) (args:=cap) (by simp) (Ql cap w') ?_;refine (Qk cap w' Nr).mono ?_;rintro e u' w'' ⟨rfl,rfl,rfl⟩;exact fin _ E g s a w'' hS he
  cases e with
  |normal=>simp only[AE.ex,bodyPostD,hd];exact key he
  |exit id=>exact he.elim
  |ret=>simp only[AE.ex,bodyPostD,hd];exact key he
def Ahz(C:CT)(f:AF)(G:GV)(args:List SV)(r:SV)(G':GV):Prop:=vc C f.body (rtG f.res (.ret r) G') ⟨args++List.replicate (f.ntmps-args.length) .undef,[gOb G]⟩
def Amt{C:CT}{b:AC}{n:Nat}{res:List AR}{G G':GV}{args:List SV}{r:SV}:Ahz C { ntmps:=n,res:=res,body:=b } G args r G'=vc C b (rtG res (.ret r) G') ⟨args++List.replicate (n-args.length) .undef,[gOb G]⟩:=q_z
attribute [go_sem] Amt
def Aqo{f:Nat}{fn:Func}{af:AF}{t gf k:Nat}{G G':GV}{args:List SV}{r:SV}(hm:P.follows .mixedOrders=true)(hf:P.funcs[f]?=some fn)(htr:Nc P fn=some (af,t,gf,k))
  (Ql:∀(cap:Array Value) (w:World),(invoke (.fn (.func gf) cap) #[]).run P w=.ok (.enter gf cap) w) (Qk:∀(cap:Array Value) (w:World),cap.size=k->CallsD P gf cap .returning w fun e u' w'=>u'=.returning/\e=.returned (.tuple #[])/\w'=w)
  (h:Ahz (Dy P fun _ _=>False) af G args r G'):HContract P f G args (.ret r) G':=by
 unfold Nc at htr;split at htr;rotate_left
 ·cases htr
 rename_i c hb;split at htr;rotate_left
 ·cases htr
 rename_i ars Gq;simp only[q_e] at htr;obtain⟨⟨ac,q⟩,hq,Ny⟩:=htr;cases Ny;exact Aqn hm hf hb (Ahv hq) Gq Ql Qk h
end
open Go Go.Proofs Go.Proofs.YtgfehkhcmnfpaaaGreatDoor
def af107:AF:=⟨28,[(.cell 6 false 1),(.cell 7 false 1)],(Ab [oP 3 (.box (.t 0)),oP 4 (.box (.t 1)),oP 6 (.new [(.bool false)]),oP 7 (.new [(iS 0)])] (.seq (Ab [oP 9 (Am 5 3),oP 10 (.call 23 [(.t 9)]),oP 11 (.un .not (.t 10)),Aa 12 11,oG 13 12 false 0 (Am 5 4),oG 14 12 false 0 (.call 23 [(.t 13)]),oG 15 12 false 0 (.un .not (.t 14)),oP 16 (Db 12 15)] (Ag 16 (Ab [oN (.store 1 (.t 6) (cB false)),oN (.store 1 (.t 7) (cI 1))] .ret) .skip)) (Ab [oP 17 (.mv (cB true)),oN (.un .not (.t 17)),oP 17 (.mv (.c .J))] (Ab [Aa 18 2,oP 19 (.call 143 [(.t 18)]),Aa 8 19] (.seq (.cut (.reg [Aa 20 8,⟨(some 21),(.hcall 144 [(.t 20)]),none,1,true,[]⟩,⟨(some 22),(Am 5 3),none,2,false,[1]⟩,⟨(some 23),(.hcall 114 [(.t 22),(.c .nilp)]),none,3,true,[]⟩,⟨(some 24),(Am 5 4),none,4,false,[1,3]⟩,oI 25 5 (.hcall 114 [(.t 24),(.c .nilp)]),oI 26 6 (mT 8)] true) (.cut (Bj [⟨(some 27),(.hcall 145 [(.t 21),(.t 23),(.t 25),(cI 0),(.t 26)]),none,7,false,[7]⟩]) (.reg [oJ 8 (Bd 1 6 27),oJ 9 (.store 1 (.t 7) (cI 0))] true))) .ret)))))⟩
def tr107:Nc Tryz.prog Tryz.f107=some (af107,17,142,2):=by kernel_rfl
attribute [go_sem] af107
def af174:AF:=⟨21,[(.cell 10 false 1),(.cell 11 false 1)],(Ab [oP 10 (.new [(.bool false)]),oP 11 (.new [(.bool false)])] (Ab [oP 12 (.mv (cB true)),oN (.un .not (.t 12)),oP 12 (.mv (.c .J))] (Ab [Aa 13 0,Aa 14 4,oP 15 (.hcall 175 [(.t 13),(.t 14)])] (Ab [Aa 16 0,Aa 17 1,Aa 18 2,Aa 19 3,oP 20 (.hcall 205 [(.t 16),(.t 17),(.t 18),(.t 19),(cB true)]),oN (Bd 1 10 20),oN (.store 1 (.t 11) (cB true))] .ret))))⟩
def tr174:Nc Tryz.prog Tryz.f174=some (af174,12,204,2):=by kernel_rfl
attribute [go_sem] af174
def af205:AF:=⟨62,[(.t 10)],(Ab [oP 10 (.mv (cB false))] (Ab [Aa 11 0,oP 12 (.hcall 206 [(.t 11)])] (.seq (.seq (.cut (.reg [Aa 13 1,oI 14 1 (mT 2)] true) (.cut (Bj [oI 15 2 (.bin 2 .eql (.t 13) (.t 14))]) (.cut (.reg [oI 16 3 (mT 15),oG 17 16 false 4 (mT 1),oG 18 16 false 5 (Al 17),oG 19 16 false 6 (Ac 6 18),oG 20 16 false 7 (Af 19),oG 21 16 false 8 (.un .not (.t 20)),oG 22 16 false 9 (mT 21),oG 23 22 true 10 (mT 2),oG 24 22 true 11 (Al 23),oG 25 22 true 12 (Ac 6 24),oG 26 22 true 13 (Af 25),oG 27 22 true 14 (.un .not (.t 26)),oG 28 16 false 15 (Cf 22 27),oG 29 16 false 16 (mT 28),oG 30 29 true 17 (mT 1),oG 31 29 true 18 (Al 30),oG 32 29 true 19 (Ac 5 31),oG 33 29 true 20 (Af 32),oG 34 29 true 21 (mT 2),oG 35 29 true 22 (Al 34),oG 36 29 true 23 (Ac 5 35),oG 37 29 true 24 (Af 36)] true) (.cut (Bj [oG 38 29 true 25 (.bin 2 .eql (.t 33) (.t 37))]) (.reg [oG 39 16 false 26 (Cf 29 38),oG 40 16 false 27 (mT 39),oG 41 40 true 28 (mT 1),oG 42 40 true 29 (Al 41),oG 43 40 true 30 (Ac 0 42),oG 44 40 true 31 (Am 5 43),oG 45 40 true 32 (mT 2),oG 46 40 true 33 (Al 45),oG 47 40 true 34 (Ac 0 46),oG 48 40 true 35 (Am 5 47),oG 49 40 true 36 (.call 22 [(.t 44),(.t 48)]),oG 50 16 false 37 (Cf 40 49),oI 51 38 (Db 16 50)] true))))) (Ag 51 (Ab [oP 10 (.mv (cB true))] .ret) .skip)) (Ab [Aa 52 0,Aa 53 0,Aa 54 1,oP 55 (.hcall 201 [(.t 53),(.t 54)]),Aa 56 0,Aa 57 2,oP 58 (.hcall 201 [(.t 56),(.t 57)]),Aa 59 3,Aa 60 4,oP 61 (.hcall 226 [(.t 52),(.t 55),(.t 58),(.t 59),(.t 60)]),Aa 10 61] .ret))))⟩
def tr205:trF Tryz.prog Tryz.f205=some af205:=by kernel_rfl
attribute [go_sem] af205
def af145:AF:=⟨39,[(.t 10)],(Ab [oP 10 (.mv (cB false))] (Ab [Aa 15 0,Aa 16 1,Aa 17 2,Aa 18 3,Aa 19 4,oP 20 (.mnx false (.t 19) (cI 300000)),oP 21 (.hcall 174 [(.t 15),(.t 16),(.t 17),(.t 18),(.t 20)]),Aa 14 21,oP 22 (.ext (.t 14) 0),oP 23 (.ext (.t 14) 1),Aa 11 22,Aa 12 23] (.seq (Ab [Aa 24 12] (Ag 24 (Ab [Aa 25 11,Aa 10 25] .ret) .skip)) (Ab [Aa 26 0,Aa 27 4,oP 28 (.hcall 175 [(.t 26),(.t 27)])] (Ab [Aa 29 0,Aa 30 1,Aa 31 3,oP 32 (.hcall 176 [(.t 29),(.t 30),(.t 31)]),oP 13 Ej,oN (Bd 5 13 32)] (Cl [⟨(some 33),(Am 5 13),none,0,true,[]⟩,oI 34 1 (mT 0),oI 35 2 (mT 2),oI 36 3 (mT 3),⟨(some 37),(.hcall 176 [(.t 34),(.t 35),(.t 36)]),none,4,false,[0,4]⟩,oI 38 5 (.call 177 [(.t 33),(.t 37)]),oI 10 6 (mT 38)] .ret))))))⟩
def tr145:trF Tryz.prog Tryz.f145=some af145:=by kernel_rfl
attribute [go_sem] af145
def a202_24:AC:=.blk 1 (.seq (Ab [Aa 7 1,oP 8 (Al 7),oP 9 (Ac 0 8),oP 10 (Af 9),oP 11 (As 10 23)] (Ag 11 (.seq (Cl [Aa 12 0,oI 13 1 (mT 1),oI 14 2 (Al 13),oI 15 3 (Ac 3 14),oI 16 4 (Af 15),oI 17 5 (mT 1),oI 18 6 (Al 17),oI 19 7 (Ac 1 18),oI 20 8 (Af 19),oI 21 9 (mT 1),oI 22 10 (Al 21),oI 23 11 (Ac 2 22),oI 24 12 (Af 23),⟨(some 25),(.hcall 222 [(.t 12),(.t 16),(.t 20),(.t 24)]),none,13,false,[13]⟩,oI 5 14 (mT 25)] (Ab [Aa 26 5,oP 27 (.bin 2 .neq (.t 26) (.c .nilp)),Aa 28 27,oG 29 28 true 0 (mT 5),oG 30 28 true 0 (Al 29),oG 31 28 true 0 (Ac 12 30),oG 32 28 true 0 (Af 31),oP 33 (Cf 28 32)] (Ag 33 (Ab [Aa 34 1,oP 35 (Al 34),oP 36 (Ac 3 35),oP 37 (Af 36),Aa 4 37] .ret) .skip))) (Ab [oP 4 (.mv (cI 0))] .ret)) .skip)) (Ab [Aa 38 1,oP 39 (Al 38),oP 40 (Ac 0 39),oP 41 (Af 40),oP 42 (.call 223 [(.t 41)]),Aa 6 42] (.seq (Ab [Aa 43 6,oP 44 (Bg .lss 43 0)] (Ag 44 (Ab [oP 4 (.mv (cI 0))] .ret) .skip)) (Bj [Aa 45 1,oP 46 (Al 45),oP 47 (Ac 5 46),oP 48 (Af 47),Aa 49 6,oP 50 (.iad 1 (.t 48) (.t 49)),oP 51 (Af 50),oP 52 (Al 51),oP 53 (Ac 7 52),oP 54 (Af 53),Aa 1 54]))))
def af202:AF:=⟨55,[(.t 4)],(Ab [oP 4 (.mv (cI 0))] (.blk 0 (.loop a202_24)))⟩
def tr202:trF Tryz.prog Tryz.f202=some af202:=by kernel_rfl
attribute [go_sem] af202 a202_24
def a221_54:AC:=.blk 1 (.seq (Ab [oP 10 (Ac 0 4),oP 11 (Af 10),oP 12 (As 11 2)] (Ag 12 (.seq (Ab [Aa 13 2,oP 14 (Ac 1 4),oP 15 (Af 14),oP 16 (.call 220 [(.t 13),(.t 15)]),Aa 7 16] (Ab [Aa 17 7,oP 18 (.bin 2 .neq (.t 17) (.c .nilp))] (Ag 18 (Ab [Aa 19 0,Aa 20 7,oP 21 (.hcall 201 [(.t 19),(.t 20)]),Aa 6 21] .ret) .skip))) (Cl [Aa 22 2,⟨(some 23),(.call 185 [(.t 22)]),none,1,true,[]⟩,oI 24 2 (Ac 1 4),⟨(some 25),(Af 24),none,3,false,[1]⟩,oI 26 4 (Ch .sub 23 25),oI 27 5 (Bg .sub 26 1),oI 28 6 (.build [(iS 0),(iS 0),(iS 0),(iS 0),(iS 0),.nils] [(0,(1,(cI 2))),(4,(1,(.t 27)))]),oI 29 7 (.box (.t 28)),oI 6 8 (mT 29)] .ret)) .skip)) (Ab [oP 30 (Ac 0 4),oP 31 (Af 30),oP 32 (.call 223 [(.t 31)]),Aa 8 32] (.seq (Ab [Aa 33 8,oP 34 (Bg .lss 33 0)] (Ag 34 (Ab [Aa 35 0,oP 36 (Am 5 4),Aa 37 2,oP 38 (.hcall 230 [(.t 35),(.t 36),(.t 37),(cI (-1)),(.c .nilp)]),Aa 6 38] .ret) .skip)) (Ab [Aa 39 0,oP 40 (Ac 4 4),oP 41 (Af 40),Aa 42 8,oP 43 (.iad 5 (.t 41) (.t 42)),oP 44 (Am 5 43),Aa 45 2,oP 46 (.hcall 221 [(.t 39),(.t 44),(.t 45)]),Aa 9 46] (.blk 2 (Ab [oP 54 (Ac 0 4),oP 55 (Af 54),oP 56 (As 55 15),Aa 57 56,oG 58 57 true 0 (mT 9),oG 59 57 true 0 (Al 58),oG 60 57 true 0 (Ac 0 59),oG 61 57 true 0 (Af 60),oG 62 57 true 0 (As 61 14),oP 63 (Cf 57 62),Aa 53 63] (Ag 53 (Ab [Aa 64 0,oP 65 (.hcall 224 [(.t 64)])] (.reg [Aa 66 9,oI 67 1 (Al 66),oI 68 2 (Ac 5 67),⟨(some 69),(Af 68),none,3,true,[]⟩,⟨(some 70),(.iad 1 (.t 69) (cI 1)),none,4,true,[]⟩,⟨(some 71),(Af 70),none,5,true,[]⟩,oI 72 6 (Al 71),oI 73 7 (Ac 0 72),⟨(some 74),(Am 5 73),none,8,true,[]⟩,oI 75 9 (mT 9),oI 76 10 (Al 75),oI 77 11 (Ac 5 76),⟨(some 78),(Af 77),none,12,true,[]⟩,⟨(some 79),(.iad 1 (.t 78) (cI 1)),none,13,true,[]⟩,⟨(some 80),(Af 79),none,14,true,[]⟩,oI 81 15 (Al 80),oI 82 16 (Ac 5 81),⟨(some 83),(Af 82),none,17,true,[]⟩,oI 84 18 (Ac 4 4),oI 85 19 (Af 84),oI 86 20 (.iad 5 (.t 85) (cI 1)),oI 87 21 (Am 5 86),oI 88 22 (mT 2),⟨(some 89),(.hcall 114 [(.t 87),(.t 88)]),none,23,false,[3,4,5,8,12,13,14,17,23]⟩,⟨(some 90),(.call 149 [(.t 83),(.t 89)]),none,24,false,[3,4,5,8]⟩,oJ 25 (Bd 5 4 74),oI 2 26 (mT 90)] true)) (Ab [oP 92 (Ac 0 4),oP 93 (Af 92),oP 94 (As 93 18),Aa 95 94,oG 96 95 true 0 (mT 9),oG 97 95 true 0 (Al 96),oG 98 95 true 0 (Ac 0 97),oG 99 95 true 0 (Af 98),oG 100 95 true 0 (As 99 17),oP 101 (Cf 95 100),Aa 91 101] (Ag 91 (Ab [Aa 102 0,oP 103 (.hcall 224 [(.t 102)])] (Ab [Aa 104 0,Aa 105 9,oP 106 (Al 105),oP 107 (Ac 5 106),oP 108 (Af 107),oP 109 (.iad 1 (.t 108) (cI 2)),oP 110 (Af 109),oP 111 (.hcall 201 [(.t 104),(.t 110)]),Aa 6 111] .ret)) (Ab [oP 113 (Ac 0 4),oP 114 (Af 113),oP 115 (As 114 19),Aa 116 115,oG 117 116 true 0 (mT 9),oG 118 116 true 0 (Al 117),oG 119 116 true 0 (Ac 0 118),oG 120 116 true 0 (Af 119),oG 121 116 true 0 (As 120 17),oP 122 (Cf 116 121),Aa 112 122] (Ag 112 (Ab [Aa 123 0,oP 124 (.hcall 224 [(.t 123)])] (Ab [Aa 125 0,Aa 126 9,oP 127 (Al 126),oP 128 (Ac 5 127),oP 129 (Af 128),oP 130 (.iad 1 (.t 129) (cI 3)),oP 131 (Af 130),oP 132 (.hcall 201 [(.t 125),(.t 131)]),Aa 6 132] .ret)) (Ab [oP 134 (Ac 0 4),oP 135 (Af 134),oP 136 (As 135 22),Aa 137 136,oG 138 137 true 0 (mT 9),oG 139 137 true 0 (Al 138),oG 140 137 true 0 (Ac 0 139),oG 141 137 true 0 (Af 140),oG 142 137 true 0 (As 141 21),oP 143 (Cf 137 142),Aa 133 143] (Ag 133 (Ab [Aa 144 0,oP 145 (.hcall 224 [(.t 144)])] (Bj [oP 146 (Ac 4 4),oP 147 (Af 146),oP 148 (.iad 5 (.t 147) (cI 3)),oP 149 (Am 5 148),oN (Bd 5 4 149)])) (Ab [Aa 47 0,oP 48 (Am 5 4),Aa 49 2,Aa 50 8,Aa 51 9,oP 52 (.hcall 230 [(.t 47),(.t 48),(.t 49),(.t 50),(.t 51)]),Aa 6 52] .ret))))))))))))))
def af221:AF:=⟨150,[(.t 6)],(Ab [oP 4 (.box (.t 1)),oP 6 (.mv (.c .nilp))] (.blk 0 (.loop a221_54)))⟩
def tr221:trF Tryz.prog Tryz.f221=some af221:=by kernel_rfl
attribute [go_sem] af221 a221_54
def af230:AF:=⟨65,[(.t 10)],(Ab [oP 6 (.box (.t 1)),oP 10 (.mv (.c .nilp))] (Ab [oP 14 (Ac 0 6),oP 15 (Af 14),oP 16 (Ac 1 6),oP 17 (Af 16),oP 18 (Ac 2 6),oP 19 (Af 18),oP 20 (Ac 3 6),oP 21 (Af 20),oP 22 (.build [(iS 0),(iS 0),(iS 0),(iS 0),(iS 0),.nils] [(0,(1,(.t 15))),(1,(1,(.t 17))),(2,(1,(.t 19))),(3,(1,(.t 21)))]),oP 23 (.box (.t 22)),Aa 11 23] (.seq (Ab [oP 24 (Ac 4 6),oP 25 (Af 24),oP 26 (.len false (.t 25)),oP 27 (Bg .gtr 26 0)] (Ag 27 (Bj [Aa 28 11,oP 29 (Ac 4 6),oP 30 (Af 29),oP 31 (.len false (.t 30)),oP 32 (.mk 1 8 [.nilp] (.t 31) (.t 31)),oP 33 (Al 28),oP 34 (Ac 5 33),oN (Bd 1 34 32)]) .skip)) (.seq (Ab [oP 35 (Ac 4 6),oP 36 (Af 35),oP 37 (.len false (.t 36)),oP 38 (.mv (cI 0))] (.blk 0 (.loop (Ab [oP 39 (Ch .lss 38 37)] (.seq (Ez 39 0) (.seq (.blk 1 (Ab [Aa 40 38,oP 41 (.iad 5 (.t 36) (.t 38)),oP 42 (Am 5 41),oP 13 Ej,Aa 12 40,oN (Bd 5 13 42)] (.seq (Ab [Aa 43 12,Aa 44 3,oP 45 (Ch .eql 43 44)] (Ag 45 (Cl [Aa 46 11,oI 47 1 (Al 46),oI 48 2 (Ac 5 47),⟨(some 49),(Af 48),none,3,true,[]⟩,oI 50 4 (mT 12),oI 51 5 (mT 4),⟨(some 52),(.hcall 181 [(.t 51)]),none,6,false,[3,6]⟩,oI 53 7 (.iad 1 (.t 49) (.t 50)),oJ 8 (Bd 1 53 52)] (.exit 1)) .skip)) (.reg [Aa 54 11,oI 55 1 (Al 54),oI 56 2 (Ac 5 55),⟨(some 57),(Af 56),none,3,true,[]⟩,oI 58 4 (mT 12),oI 59 5 (Am 5 13),oI 60 6 (mT 2),⟨(some 61),(.hcall 114 [(.t 59),(.t 60)]),none,7,false,[3,7]⟩,oI 62 8 (.iad 1 (.t 57) (.t 58)),oJ 9 (Bd 1 62 61)] true)))) (Bj [oP 63 (Bg .add 38 1),Aa 38 63]))))))) (Ab [Aa 64 11,Aa 10 64] .ret)))))⟩
def tr230:trF Tryz.prog Tryz.f230=some af230:=by kernel_rfl
attribute [go_sem] af230
def af144:AF:=⟨7,[(.t 2)],(Ab [oP 2 (.mv (.c .nilp))] (Ab [Aa 3 0,oP 4 .mkmap,oP 5 (.build [(iS 0),(iS 0),(iS 0),(iS 0),.nilm] [(1,(1,(.t 3))),(4,(1,(.t 4)))]),oP 6 (.boxg (.t 5)),Aa 2 6] .ret))⟩
def tr144:trF Tryz.prog Tryz.f144=some af144:=by kernel_rfl
attribute [go_sem] af144
def af114:AF:=⟨9,[(.t 4)],(Ab [oP 2 (.box (.t 0)),oP 4 (.mv (.c .nilp))] (Ab [oP 5 (Am 5 2),Aa 6 1,oP 7 (.build [(iS 0),(iS 0),(iS 0),(iS 0),.nils,.nilp,(.bool false),.nilp,.nilp] [(0,(5,(.t 5))),(5,(1,(.t 6)))]),oP 8 (.boxg (.t 7)),Aa 4 8] .ret))⟩
def tr114:trF Tryz.prog Tryz.f114=some af114:=by kernel_rfl
attribute [go_sem] af114
def af206:AF:=⟨18,[],(Ab [Aa 2 0,oP 3 (.hcall 227 [(.t 2)])] (Ab [Aa 4 0,oP 5 (Al 4),oP 6 (Ac 2 5),oP 7 (Af 6),oP 8 (Bg .add 7 1),oP 9 (Al 4),oP 10 (Ac 2 9),oN (Bd 1 10 8)] (Ab [Aa 11 0,oP 12 (Al 11),oP 13 (Ac 2 12),oP 14 (Af 13),oP 15 (Bg .gtr 14 8000000)] (Ag 15 (Bj [oP 16 (.build [] []),oP 17 (.ifc 154 (.t 16)),oN (.pan (.t 17))]) .skip))))⟩
def tr206:trF Tryz.prog Tryz.f206=some af206:=by kernel_rfl
attribute [go_sem] af206
def af201:AF:=⟨27,[(.t 4)],(Ab [oP 4 (.mv (.c .nilp))] (.seq (Ab [Aa 5 1,oP 6 (Al 5),oP 7 (Ac 7 6),oP 8 (Af 7),oP 9 (.bin 2 .eql (.t 8) (.c .nilp))] (Ag 9 (.reg [Aa 10 1,oI 11 1 (mT 0),oI 12 2 (mT 1),oI 13 3 (Al 12),oI 14 4 (Ac 0 13),oI 15 5 (Am 5 14),oI 16 6 (mT 1),oI 17 7 (Al 16),oI 18 8 (Ac 5 17),oI 19 9 (Af 18),⟨(some 20),(.hcall 221 [(.t 11),(.t 15),(.t 19)]),none,10,false,[10]⟩,oI 21 11 (Al 10),oI 22 12 (Ac 7 21),oJ 13 (Bd 1 22 20)] true) .skip)) (Ab [Aa 23 1,oP 24 (Al 23),oP 25 (Ac 7 24),oP 26 (Af 25),Aa 4 26] .ret)))⟩
def tr201:trF Tryz.prog Tryz.f201=some af201:=by kernel_rfl
attribute [go_sem] af201
def af175:AF:=⟨14,[],(Bj [Aa 4 0,Aa 5 0,Aa 6 0,Aa 7 1,oP 8 (Al 4),oP 9 (Ac 0 8),oN (.store 1 (.t 9) (cI 0)),oP 10 (Al 5),oP 11 (Ac 1 10),oN (Bd 1 11 7),oP 12 (Al 6),oP 13 (Ac 2 12),oN (.store 1 (.t 13) (cI 0))])⟩
def tr175:trF Tryz.prog Tryz.f175=some af175:=by kernel_rfl
attribute [go_sem] af175
def af227:AF:=⟨21,[],(Ab [Aa 2 0,oP 3 (Al 2),oP 4 (Ac 3 3),oP 5 (Af 4),oP 6 (Bg .gtr 5 0)] (Ag 6 (Ab [Aa 7 0,oP 8 (Al 7),oP 9 (Ac 3 8),oP 10 (Af 9),oP 11 (Bg .sub 10 1),oP 12 (Al 7),oP 13 (Ac 3 12),oN (Bd 1 13 11)] (Ab [Aa 14 0,oP 15 (Al 14),oP 16 (Ac 3 15),oP 17 (Af 16),oP 18 (As 17 0)] (Ag 18 (Bj [oP 19 (.build [] []),oP 20 (.ifc 246 (.t 19)),oN (.pan (.t 20))]) .skip))) .skip))⟩
def tr227:trF Tryz.prog Tryz.f227=some af227:=by kernel_rfl
attribute [go_sem] af227
def af223:AF:=⟨10,[(.t 2)],(Ab [oP 2 (.mv (cI 0))] (.seq (Ab [Aa 3 0] (.blk 0 (.seq (Ab [oP 5 (As 3 15),Aa 4 5] (Ag 4 .skip (Ab [oP 6 (As 3 18),Aa 4 6] (Ag 4 .skip (Bj [oP 7 (As 3 19),Aa 4 7]))))) (Ag 4 (Ab [oP 2 (.mv (cI 0))] .ret) (Ab [oP 9 (As 3 22),Aa 8 9] (Ag 8 (Ab [oP 2 (.mv (cI 5))] .ret) .skip)))))) (Ab [oP 2 (.mv (cI (-1)))] .ret)))⟩
def tr223:trF Tryz.prog Tryz.f223=some af223:=by kernel_rfl
attribute [go_sem] af223
def af181:AF:=⟨6,[(.t 2)],(Ab [oP 2 (.mv (.c .nilp))] (Ab [Aa 3 0,oP 4 (.build [(iS 0),(iS 0),(iS 0),(iS 0),.nils,.nilp,(.bool false),.nilp,.nilp] [(6,(1,(cB true))),(7,(1,(.t 3)))]),oP 5 (.boxg (.t 4)),Aa 2 5] .ret))⟩
def tr181:trF Tryz.prog Tryz.f181=some af181:=by kernel_rfl
attribute [go_sem] af181
def a172_8:AC:=.seq (Ab [Aa 14 0,Aa 15 5,oP 16 (.hcall 202 [(.t 14),(.t 15)]),oP 17 (Bg .neq 16 0)] (Ez 17 0)) (.blk 1 (Bj [Aa 18 0,Aa 19 5,oP 20 (.hcall 203 [(.t 18),(.t 19)]),Aa 5 20]))
def a172_11:AC:=Bj [Aa 21 1,Aa 22 5,oP 23 (Al 21),oP 24 (Ac 8 23),oN (Bd 1 24 22)]
def a172_17:AC:=Ab [Aa 25 1,oP 26 (Al 25),oP 27 (Ac 8 26),oP 28 (Af 27),Aa 4 28] .ret
def af172:AF:=⟨29,[(.t 4)],(Ab [oP 4 (.mv (.c .nilp))] (.seq (Ab [Aa 6 1,oP 7 (Al 6),oP 8 (Ac 8 7),oP 9 (Af 8),oP 10 (.bin 2 .eql (.t 9) (.c .nilp))] (Ag 10 (Ab [Aa 11 0,Aa 12 1,oP 13 (.hcall 201 [(.t 11),(.t 12)]),Aa 5 13] (.seq (.blk 0 (.loop a172_8)) a172_11)) .skip)) a172_17))⟩
def tr172:trF Tryz.prog Tryz.f172=some af172:=by kernel_rfl
attribute [go_sem] af172 a172_8 a172_11 a172_17
def lqp(S:Nat->St)(n i:Nat)(p:Prop)(Q:AE->St->Prop):AE->St->Prop:=fun e s'=>match e with|.normal=>i<n/\p/\Wk s' (S (i+1))|e=>Q e s'
def Agc{S:Nat->St}{n i:Nat}{p:Prop}{Q:AE->St->Prop}{s:St}:lqp S n i p Q .normal s=(i<n/\p/\Wk s (S (i+1))):=q_z
def Agb{S:Nat->St}{n i j:Nat}{p:Prop}{Q:AE->St->Prop}{s:St}:lqp S n i p Q (.exit j) s=Q (.exit j) s:=q_z
def Agd{S:Nat->St}{n i:Nat}{p:Prop}{Q:AE->St->Prop}{s:St}:lqp S n i p Q .ret s=Q .ret s:=q_z
attribute [go_sem] Agc Agb Agd
def Ab0{C:CT}{b:AC}{Q:AE->St->Prop}(S:Nat->St)(n:Nat)(p:Nat->Prop)(Mx:∀i,i<=n->(∀j,j<i->p j)->vc C b (lqp S n i (p i) Q) (S i)){s:St}(h0:Wk s (S 0)):vc C (.loop b) Q s:=by
 refine Ab1 (fun m s=>∃i,i<=n/\m=n-i/\(∀j,j<i->p j)/\Wk s (S i)) (fun m s hI=>?_) n s ⟨0,Nat.zero_le _,rfl,fun j hj=>absurd hj (Nat.not_lt_zero _),h0⟩;obtain⟨i,hi,rfl,hp,hw⟩:=hI;refine⟨S i,hw,Wq (fun e s' he=>?_) (Mx i hi hp)⟩;cases e with
 |normal=>exact⟨n-(i+1),by have:=he.1;omega,i+1,he.1,rfl,fun j hj=>(by rcases Nat.lt_succ_iff_lt_or_eq.1 hj with h|rfl;exact hp j h;exact he.2.1),he.2.2⟩
 |exit id=>exact he
 |ret=>exact he
def Sd{α:Type}{l:List α}{i:Nat}{d:α}(h:i<l.length):l[i]?.getD d∈l:=by
 rw[q_f h,q_jz];exact q_kd h
def Gw{α:Type}(f:Nat->α->Bool):Nat->List α->Bool
 |_,[]=>true
 |i,x::l=>f i x && Gw f (i+1) l
def Aii{α:Type}{f:Nat->α->Bool}{d:α}:∀{l:List α} {k:Nat},(∀j,j<l.length->f (k+j) (l[j]?.getD d)=true)->Gw f k l=true:=by
 intro l
 induction l with
 |nil=>intro k _;rfl
 |cons x l ih=>
  intro k h;simp only[Gw,q_jl];refine⟨by simpa using h 0 (by simp),ih fun j hj=>?_⟩;have:=h (j+1) (by simp;omega);rw[show k+1+j=k+(j+1) by omega];simpa using this
def Aih{α:Type}{f:Nat->α->Bool}{d:α}:∀{l:List α} {k i:Nat},i<l.length->f (k+i) (l[i]?.getD d)=false->Gw f k l=false:=by
 intro l
 induction l with
 |nil=>intro k i h;simp at h
 |cons x l ih=>
  intro k i hi h;simp only[Gw];cases i with
  |zero=>have h':f k x=false:=by simpa using h
         rw[h'];rfl
  |succ i=>
   rw[ih (k:=k+1) (i:=i) (by simpa using hi) (by rw[show k+1+i=k+(i+1) by omega];simpa using h),q_kz]
def Aif{α β:Type}{f:Nat->β->Bool}{g:α->β}:∀{l:List α} {k:Nat},Gw f k (l.map g)=Gw (fun i x=>f i (g x)) k l:=by
 intro l
 induction l with
 |nil=>intro k;rfl
 |cons x l ih=>intro k;simp only[q_h,Gw,ih]
def Aie{α:Type}{f g:Nat->α->Bool}:∀{l:List α} {k:Nat},(∀i,∀x∈l,f i x=g i x)->Gw f k l=Gw g k l:=by
 intro l
 induction l with
 |nil=>intro k _;rfl
 |cons x l ih=>
  intro k h;simp only[Gw];rw[h k x (by simp),ih (fun i y hy=>h i y (by simp[hy]))]
def vcI(C:CT)(b:AC)(Q:AE->St->Prop)(n:Nat)(s:St):Prop:=Nh (fun Q' s'=>vc C b Q' s') Q n s
def lqi(C:CT)(b:AC)(Q:AE->St->Prop)(n:Nat):AE->St->Prop:=fun e s'=>match e with|.normal=>vcI C b Q n s'|e=>Q e s'
section
variable{C:CT}{b:AC}{Q:AE->St->Prop}{n:Nat}{s:St}
def Ar7:lqi C b Q n .normal s=vcI C b Q n s:=q_z
def Ar6{j:Nat}:lqi C b Q n (.exit j) s=Q (.exit j) s:=q_z
def Ar8:lqi C b Q n .ret s=Q .ret s:=q_z
attribute [go_sem] Ar7 Ar6 Ar8
def Bb(h:vc C b (lqi C b Q n) s):vcI C b Q (n+1) s:=by
 refine⟨s,.refl s,Wq (fun e s' he=>?_) h⟩;cases e with
 |normal=>exact he
 |exit id=>exact he
 |ret=>exact he
def Eo(n:Nat)(h:vcI C b Q n s):vc C (.loop b) Q s:=⟨n,h⟩
end
def wr_1:IntKind.i64.wrap 1=1:=by decide
def wr_2:IntKind.i64.wrap 2=2:=by decide
def wr_3:IntKind.i64.wrap 3=3:=by decide
def wr_4:IntKind.i64.wrap 4=4:=by decide
def wr_5:IntKind.i64.wrap 5=5:=by decide
def wr_6:IntKind.i64.wrap 6=6:=by decide
attribute [go_sem] wr_1 wr_2 wr_3 wr_4 wr_5 wr_6
def af162:AF:=⟨5,[(.cell 2 true 5)],(Ab [oP 2 Ej] (Ab [Aa 3 0,oP 4 (Hl [(0,(1,(cI 1))),(1,(1,(.t 3)))]),oN (Bd 5 2 4)] .ret))⟩
def tr162:trF Tryz.prog Tryz.f162=some af162:=by kernel_rfl
attribute [go_sem] af162
def af141:AF:=⟨33,[(.cell 2 true 5)],(Ab [oP 1 (.box (.t 0)),oP 2 Ej] (.seq (Ab [oP 6 (Ac 4 1),oP 7 (Af 6),oP 8 (.len false (.t 7)),oP 9 (As 8 0)] (Ag 9 (Ab [oP 10 (Ac 4 1),oN (.store 1 (.t 10) (.c .nils))] (Ab [oP 11 (Am 5 1),oN (Bd 5 2 11)] .ret)) .skip)) (Ab [oP 12 (Ac 4 1),oP 13 (Af 12),oP 14 (.len false (.t 13)),oP 15 (.mk 5 56 [(iS 0),(iS 0),(iS 0),(iS 0),.nils] (.t 14) (.t 14)),Aa 3 15] (.seq (Ab [oP 16 (Ac 4 1),oP 17 (Af 16),oP 18 (.len false (.t 17)),oP 19 (.mv (cI 0))] (.blk 0 (.loop (Ab [oP 20 (Ch .lss 19 18)] (.seq (Ez 20 0) (.seq (.blk 1 (Ab [Aa 21 19,oP 22 (.iad 5 (.t 17) (.t 19)),oP 23 (Am 5 22),oP 5 Ej,Aa 4 21,oN (Bd 5 5 23)] (Bj [Aa 24 3,Aa 25 4,oP 26 (Am 5 5),oP 27 (.call 141 [(.t 26)]),oP 28 (.iad 5 (.t 24) (.t 25)),oN (Bd 5 28 27)]))) (Bj [oP 29 (Bg .add 19 1),Aa 19 29]))))))) (Ab [Aa 30 3,oP 31 (Ac 4 1),oN (Bd 1 31 30)] (Ab [oP 32 (Am 5 1),oN (Bd 5 2 32)] .ret))))))⟩
def tr141:trF Tryz.prog Tryz.f141=some af141:=by kernel_rfl
attribute [go_sem] af141
def af23:AF:=⟨5,[(.t 2)],(Ab [oP 1 (.box (.t 0)),oP 2 (.mv (cB false))] (Ab [oP 3 (Am 5 1),oP 4 (.call 56 [(.t 3),(cI 2)]),Aa 2 4] .ret))⟩
def tr23:trF Tryz.prog Tryz.f23=some af23:=by kernel_rfl
attribute [go_sem] af23
def af56:AF:=⟨58,[(.t 4)],(Ab [oP 2 (.box (.t 0)),oP 4 (.mv (cB false))] (Ab [oP 9 (Ac 0 2),oP 10 (Af 9),oP 11 (.call 89 [(.t 10)]),Aa 5 11] (.seq (Ab [Aa 12 1,oP 13 (Bg .neq 12 0),Aa 14 13,oG 15 14 true 0 (mT 5),oG 16 14 true 0 (Bg .neq 15 0),oP 17 (Cf 14 16),Aa 18 17,oG 19 18 true 0 (mT 5),oG 20 18 true 0 (mT 1),oG 21 18 true 0 (Ch .neq 19 20),oP 22 (Cf 18 21)] (Ag 22 (Ab [oP 4 (.mv (cB false))] .ret) .skip)) (.seq (Cl [oP 23 (Ac 4 2),⟨(some 24),(Af 23),none,1,true,[]⟩,oI 25 2 (.len false (.t 24)),oI 26 3 (Ac 0 2),oI 27 4 (Af 26),oI 28 5 (Ac 3 2),oI 29 6 (Af 28),⟨(some 30),(.call 90 [(.t 27),(.t 29)]),none,7,false,[1]⟩,oI 31 8 (Ch .neq 25 30),oI 32 9 (mT 31),oG 33 32 false 10 (Am 5 2),oG 34 32 false 11 (.call 91 [(.t 33)]),oG 35 32 false 12 (.un .not (.t 34)),oI 36 13 (Db 32 35)] (Ag 36 (Ab [oP 4 (.mv (cB false))] .ret) .skip)) (.seq (Ab [oP 37 (Ac 4 2),oP 38 (Af 37),oP 39 (.len false (.t 38)),oP 40 (.mv (cI 0))] (.blk 0 (.loop (Ab [oP 41 (Ch .lss 40 39)] (.seq (Ez 41 0) (.seq (.blk 1 (Ab [Aa 42 40,oP 43 (.iad 5 (.t 38) (.t 40)),oP 44 (Am 5 43),oP 7 Ej,Aa 6 42,oN (Bd 5 7 44)] (Ab [Aa 45 5,Aa 8 45] (.seq (Ab [oP 46 (Ac 0 2),oP 47 (Af 46),oP 48 (As 47 12),Aa 49 48,oG 50 49 true 0 (mT 6),oG 51 49 true 0 (As 50 2),oP 52 (Cf 49 51)] (Ag 52 (Bj [oP 8 (.mv (cI 2))]) .skip)) (Ab [oP 53 (Am 5 7),Aa 54 8,oP 55 (.call 56 [(.t 53),(.t 54)]),oP 56 (.un .not (.t 55))] (Ag 56 (Ab [oP 4 (.mv (cB false))] .ret) .skip)))))) (Bj [oP 57 (Bg .add 40 1),Aa 40 57]))))))) (Ab [oP 4 (.mv (cB true))] .ret))))))⟩
def tr56:trF Tryz.prog Tryz.f56=some af56:=by kernel_rfl
attribute [go_sem] af56
def af89:AF:=⟨13,[(.t 2)],(Ab [oP 2 (.mv (cI 0))] (.seq (.blk 0 (Ab [Aa 4 0,oP 5 (As 4 1),Aa 6 5,oG 7 6 false 0 (mT 0),oG 8 6 false 0 (As 7 2),oP 9 (Db 6 8),Aa 3 9] (Ag 3 (Ab [oP 2 (.mv (cI 0))] .ret) (Ab [Aa 11 0,oP 12 (Bg .leq 11 12),Aa 10 12] (Ag 10 (Ab [oP 2 (.mv (cI 1))] .ret) .skip))))) (Ab [oP 2 (.mv (cI 2))] .ret)))⟩
def tr89:trF Tryz.prog Tryz.f89=some af89:=by kernel_rfl
attribute [go_sem] af89
def af90:AF:=⟨38,[(.t 4)],(Ab [oP 4 (.mv (cI 0))] (.seq (Ab [Aa 5 0] (.blk 0 (.seq (Ab [oP 7 (As 5 1),Aa 6 7] (Ag 6 .skip (Bj [oP 8 (As 5 2),Aa 6 8]))) (Ag 6 (Ab [oP 4 (.mv (cI 0))] .ret) (.seq (Ab [oP 10 (As 5 18),Aa 9 10] (Ag 9 .skip (Bj [oP 11 (As 5 19),Aa 9 11]))) (Ag 9 (Ab [oP 4 (.mv (cI 1))] .ret) (.seq (Ab [oP 13 (As 5 3),Aa 12 13] (Ag 12 .skip (Ab [oP 14 (As 5 6),Aa 12 14] (Ag 12 .skip (Ab [oP 15 (As 5 13),Aa 12 15] (Ag 12 .skip (Ab [oP 16 (As 5 14),Aa 12 16] (Ag 12 .skip (Ab [oP 17 (As 5 15),Aa 12 17] (Ag 12 .skip (Ab [oP 18 (As 5 16),Aa 12 18] (Ag 12 .skip (Ab [oP 19 (As 5 21),Aa 12 19] (Ag 12 .skip (Bj [oP 20 (As 5 11),Aa 12 20]))))))))))))))) (Ag 12 (Ab [oP 4 (.mv (cI 2))] .ret) (.seq (Ab [oP 22 (As 5 4),Aa 21 22] (Ag 21 .skip (Ab [oP 23 (As 5 8),Aa 21 23] (Ag 21 .skip (Ab [oP 24 (As 5 9),Aa 21 24] (Ag 21 .skip (Ab [oP 25 (As 5 10),Aa 21 25] (Ag 21 .skip (Bj [oP 26 (As 5 20),Aa 21 26]))))))))) (Ag 21 (Ab [oP 4 (.mv (cI 3))] .ret) (.seq (Ab [oP 28 (As 5 5),Aa 27 28] (Ag 27 .skip (Ab [oP 29 (As 5 7),Aa 27 29] (Ag 27 .skip (Ab [oP 30 (As 5 12),Aa 27 30] (Ag 27 .skip (Bj [oP 31 (As 5 17),Aa 27 31]))))))) (Ag 27 (Ab [oP 4 (.mv (cI 4))] .ret) (Ab [oP 33 (As 5 22),Aa 32 33] (Ag 32 (Ab [oP 4 (.mv (cI 6))] .ret) (Ab [oP 35 (As 5 23),Aa 34 35] (Ag 34 (Ab [Aa 36 1,oP 37 (.call 130 [(.t 36)]),Aa 4 37] .ret) .skip)))))))))))))))) (Ab [oP 4 (.mv (cI (-1)))] .ret)))⟩
def tr90:trF Tryz.prog Tryz.f90=some af90:=by kernel_rfl
attribute [go_sem] af90
def af91:AF:=⟨87,[(.t 2)],(Ab [oP 1 (.box (.t 0)),oP 2 (.mv (cB false))] (.seq (Ab [oP 3 (Ac 0 1),oP 4 (Af 3)] (.blk 0 (.seq (Ab [oP 6 (As 4 1),Aa 5 6] (Ag 5 .skip (Ab [oP 7 (As 4 10),Aa 5 7] (Ag 5 .skip (Ab [oP 8 (As 4 11),Aa 5 8] (Ag 5 .skip (Bj [oP 9 (As 4 12),Aa 5 9]))))))) (Ag 5 (Ab [oP 10 (Ac 1 1),oP 11 (Af 10),oP 12 (.call 131 [(.t 11)]),Aa 13 12,oG 14 13 true 0 (Ac 2 1),oG 15 13 true 0 (Af 14),oG 16 13 true 0 (As 15 0),oP 17 (Cf 13 16),Aa 18 17,oG 19 18 true 0 (Ac 3 1),oG 20 18 true 0 (Af 19),oG 21 18 true 0 (As 20 0),oP 22 (Cf 18 21),Aa 2 22] .ret) (Ab [oP 24 (As 4 2),Aa 23 24] (Ag 23 (Ab [oP 25 (Ac 1 1),oP 26 (Af 25),oP 27 (Bg .geq 26 0),Aa 28 27,oG 29 28 true 0 (Ac 1 1),oG 30 28 true 0 (Af 29),oG 31 28 true 0 (Bg .leq 30 2147483647),oP 32 (Cf 28 31),Aa 33 32,oG 34 33 true 0 (Ac 2 1),oG 35 33 true 0 (Af 34),oG 36 33 true 0 (As 35 0),oP 37 (Cf 33 36),Aa 38 37,oG 39 38 true 0 (Ac 3 1),oG 40 38 true 0 (Af 39),oG 41 38 true 0 (As 40 0),oP 42 (Cf 38 41),Aa 2 42] .ret) (.seq (Ab [oP 44 (As 4 3),Aa 43 44] (Ag 43 .skip (Ab [oP 45 (As 4 4),Aa 43 45] (Ag 43 .skip (Ab [oP 46 (As 4 5),Aa 43 46] (Ag 43 .skip (Ab [oP 47 (As 4 6),Aa 43 47] (Ag 43 .skip (Ab [oP 48 (As 4 7),Aa 43 48] (Ag 43 .skip (Ab [oP 49 (As 4 8),Aa 43 49] (Ag 43 .skip (Bj [oP 50 (As 4 9),Aa 43 50]))))))))))))) (Ag 43 (Ab [oP 51 (Ac 1 1),oP 52 (Af 51),oP 53 (.call 131 [(.t 52)]),Aa 54 53,oG 55 54 true 0 (Ac 2 1),oG 56 54 true 0 (Af 55),oG 57 54 true 0 (.call 131 [(.t 56)]),oP 58 (Cf 54 57),Aa 59 58,oG 60 59 true 0 (Ac 3 1),oG 61 59 true 0 (Af 60),oG 62 59 true 0 (As 61 0),oP 63 (Cf 59 62),Aa 2 63] .ret) (Ab [oP 65 (As 4 23),Aa 64 65] (Ag 64 (Ab [oP 66 (Ac 1 1),oP 67 (Af 66),oP 68 (.call 131 [(.t 67)]),Aa 69 68,oG 70 69 true 0 (Ac 2 1),oG 71 69 true 0 (Af 70),oG 72 69 true 0 (.call 131 [(.t 71)]),oP 73 (Cf 69 72),Aa 2 73] .ret) .skip)))))))))) (Ab [oP 74 (Ac 1 1),oP 75 (Af 74),oP 76 (As 75 0),Aa 77 76,oG 78 77 true 0 (Ac 2 1),oG 79 77 true 0 (Af 78),oG 80 77 true 0 (As 79 0),oP 81 (Cf 77 80),Aa 82 81,oG 83 82 true 0 (Ac 3 1),oG 84 82 true 0 (Af 83),oG 85 82 true 0 (As 84 0),oP 86 (Cf 82 85),Aa 2 86] .ret)))⟩
def tr91:trF Tryz.prog Tryz.f91=some af91:=by kernel_rfl
attribute [go_sem] af91
def af130:AF:=⟨30,[(.t 2)],(Ab [oP 2 (.mv (cI 0))] (.seq (Ab [Aa 3 0] (.blk 0 (.seq (Ab [oP 5 (As 3 3),Aa 4 5] (Ag 4 .skip (Ab [oP 6 (As 3 5),Aa 4 6] (Ag 4 .skip (Ab [oP 7 (As 3 6),Aa 4 7] (Ag 4 .skip (Ab [oP 8 (As 3 8),Aa 4 8] (Ag 4 .skip (Ab [oP 9 (As 3 10),Aa 4 9] (Ag 4 .skip (Bj [oP 10 (As 3 11),Aa 4 10]))))))))))) (Ag 4 (Ab [oP 2 (.mv (cI 4))] .ret) (.seq (Ab [oP 12 (As 3 1),Aa 11 12] (Ag 11 .skip (Ab [oP 13 (As 3 2),Aa 11 13] (Ag 11 .skip (Ab [oP 14 (As 3 7),Aa 11 14] (Ag 11 .skip (Bj [oP 15 (As 3 9),Aa 11 15]))))))) (Ag 11 (Ab [oP 2 (.mv (cI 5))] .ret) (.seq (Ab [oP 17 (As 3 4),Aa 16 17] (Ag 16 .skip (Ab [oP 18 (As 3 12),Aa 16 18] (Ag 16 .skip (Ab [oP 19 (As 3 13),Aa 16 19] (Ag 16 .skip (Ab [oP 20 (As 3 14),Aa 16 20] (Ag 16 .skip (Bj [oP 21 (As 3 21),Aa 16 21]))))))))) (Ag 16 (Ab [oP 2 (.mv (cI 6))] .ret) (.seq (Ab [oP 23 (As 3 15),Aa 22 23] (Ag 22 .skip (Ab [oP 24 (As 3 18),Aa 22 24] (Ag 22 .skip (Ab [oP 25 (As 3 19),Aa 22 25] (Ag 22 .skip (Bj [oP 26 (As 3 20),Aa 22 26]))))))) (Ag 22 (Ab [oP 2 (.mv (cI 9))] .ret) (.seq (Ab [oP 28 (As 3 16),Aa 27 28] (Ag 27 .skip (Bj [oP 29 (As 3 17),Aa 27 29]))) (Ag 27 (Ab [oP 2 (.mv (cI 12))] .ret) .skip)))))))))))) (Ab [oP 2 (.mv (cI (-1)))] .ret)))⟩
def tr130:trF Tryz.prog Tryz.f130=some af130:=by kernel_rfl
attribute [go_sem] af130
def af131:AF:=⟨9,[(.t 2)],(Ab [oP 2 (.mv (cB false))] (Ab [Aa 3 0,oP 4 (Bg .geq 3 0),Aa 5 4,oG 6 5 true 0 (mT 0),oG 7 5 true 0 (Bg .leq 6 1000),oP 8 (Cf 5 7),Aa 2 8] .ret))⟩
def tr131:trF Tryz.prog Tryz.f131=some af131:=by kernel_rfl
attribute [go_sem] af131
def af20:AF:=⟨5,[(.t 2)],(Ab [oP 1 (.box (.t 0)),oP 2 (.mv (cB false))] (Ab [oP 3 (Am 5 1),oP 4 (.call 56 [(.t 3),(cI 1)]),Aa 2 4] .ret))⟩
def tr20:trF Tryz.prog Tryz.f20=some af20:=by kernel_rfl
attribute [go_sem] af20
def af55:AF:=⟨8,[(.t 2)],(Ab [oP 1 (.box (.t 0)),oP 2 (.mv (cI 0))] (.seq (Ab [oP 3 (Am 5 1),oP 4 (.call 64 [(.t 3)]),oP 5 (.un .not (.t 4))] (Ag 5 (Ab [oP 2 (.mv (cI 0))] .ret) .skip)) (Ab [oP 6 (Am 5 1),oP 7 (.call 88 [(.t 6),(cI 0)]),Aa 2 7] .ret)))⟩
def tr55:trF Tryz.prog Tryz.f55=some af55:=by kernel_rfl
attribute [go_sem] af55
def af88:AF:=⟨37,[(.t 4)],(Ab [oP 2 (.box (.t 0)),oP 4 (.mv (cI 0))] (.seq (Ab [oP 8 (Ac 0 2),oP 9 (Af 8),oP 10 (As 9 2)] (Ag 10 (Ab [oP 11 (Ac 1 2),oP 12 (Af 11),oP 13 (Bg .add 12 1),Aa 14 1,oP 15 (Ch .sub 13 14),oP 16 (.mnx true (.t 15) (cI 0)),Aa 4 16] .ret) .skip)) (Ab [oP 5 (.mv (cI 0))] (.seq (Ab [oP 17 (Ac 4 2),oP 18 (Af 17),oP 19 (.len false (.t 18)),oP 20 (.mv (cI 0))] (.blk 0 (.loop (Ab [oP 21 (Ch .lss 20 19)] (.seq (Ez 21 0) (.seq (.blk 1 (Ab [Aa 22 20,oP 23 (.iad 5 (.t 18) (.t 20)),oP 24 (Am 5 23),oP 7 Ej,Aa 6 22,oN (Bd 5 7 24)] (.reg [Aa 25 5,⟨(some 26),(Am 5 7),none,1,true,[]⟩,oI 27 2 (mT 1),oI 28 3 (Ac 0 2),oI 29 4 (Af 28),oI 30 5 (mT 6),⟨(some 31),(.call 99 [(.t 29),(.t 30)]),none,6,false,[1]⟩,oI 32 7 (Ch .add 27 31),oI 33 8 (.call 88 [(.t 26),(.t 32)]),oI 34 9 (.mnx true (.t 25) (.t 33)),oI 5 10 (mT 34)] true))) (Bj [oP 35 (Bg .add 20 1),Aa 20 35]))))))) (Ab [Aa 36 5,Aa 4 36] .ret)))))⟩
def tr88:trF Tryz.prog Tryz.f88=some af88:=by kernel_rfl
attribute [go_sem] af88
def af64:AF:=⟨5,[(.t 2)],(Ab [oP 1 (.box (.t 0)),oP 2 (.mv (cB false))] (Ab [oP 3 (Am 5 1),oP 4 (.call 56 [(.t 3),(cI 0)]),Aa 2 4] .ret))⟩
def tr64:trF Tryz.prog Tryz.f64=some af64:=by kernel_rfl
attribute [go_sem] af64
def af22:AF:=⟨60,[(.t 4)],(Ab [oP 2 (.box (.t 0)),oP 3 (.box (.t 1)),oP 4 (.mv (cB false))] (.seq (Ab [oP 6 (Ac 0 2),oP 7 (Af 6),oP 8 (Ac 0 3),oP 9 (Af 8),oP 10 (Ch .neq 7 9),Aa 11 10,oG 12 11 false 0 (Ac 1 2),oG 13 11 false 0 (Af 12),oG 14 11 false 0 (Ac 1 3),oG 15 11 false 0 (Af 14),oG 16 11 false 0 (Ch .neq 13 15),oP 17 (Db 11 16),Aa 18 17,oG 19 18 false 0 (Ac 2 2),oG 20 18 false 0 (Af 19),oG 21 18 false 0 (Ac 2 3),oG 22 18 false 0 (Af 21),oG 23 18 false 0 (Ch .neq 20 22),oP 24 (Db 18 23),Aa 25 24,oG 26 25 false 0 (Ac 3 2),oG 27 25 false 0 (Af 26),oG 28 25 false 0 (Ac 3 3),oG 29 25 false 0 (Af 28),oG 30 25 false 0 (Ch .neq 27 29),oP 31 (Db 25 30),Aa 32 31,oG 33 32 false 0 (Ac 4 2),oG 34 32 false 0 (Af 33),oG 35 32 false 0 (.len false (.t 34)),oG 36 32 false 0 (Ac 4 3),oG 37 32 false 0 (Af 36),oG 38 32 false 0 (.len false (.t 37)),oG 39 32 false 0 (Ch .neq 35 38),oP 40 (Db 32 39)] (Ag 40 (Ab [oP 4 (.mv (cB false))] .ret) .skip)) (.seq (Ab [oP 41 (Ac 4 2),oP 42 (Af 41),oP 43 (.len false (.t 42)),oP 44 (.mv (cI 0))] (.blk 0 (.loop (Ab [oP 45 (Ch .lss 44 43)] (.seq (Ez 45 0) (.seq (.blk 1 (Ab [Aa 46 44,Aa 5 46] (Cl [oP 47 (Ac 4 2),oI 48 1 (Af 47),oI 49 2 (mT 5),oI 50 3 (.iad 5 (.t 48) (.t 49)),oI 51 4 (Am 5 50),oI 52 5 (Ac 4 3),oI 53 6 (Af 52),oI 54 7 (mT 5),oI 55 8 (.iad 5 (.t 53) (.t 54)),oI 56 9 (Am 5 55),oI 57 10 (.call 22 [(.t 51),(.t 56)]),oI 58 11 (.un .not (.t 57))] (Ag 58 (Ab [oP 4 (.mv (cB false))] .ret) .skip)))) (Bj [oP 59 (Bg .add 44 1),Aa 44 59]))))))) (Ab [oP 4 (.mv (cB true))] .ret))))⟩
def tr22:trF Tryz.prog Tryz.f22=some af22:=by kernel_rfl
attribute [go_sem] af22
def af99:AF:=⟨31,[(.t 4)],(Ab [oP 4 (.mv (cI 0))] (.seq (Ab [Aa 5 0] (.blk 0 (.seq (Ab [oP 7 (As 5 3),Aa 6 7] (Ag 6 .skip (Ab [oP 8 (As 5 5),Aa 6 8] (Ag 6 .skip (Ab [oP 9 (As 5 6),Aa 6 9] (Ag 6 .skip (Ab [oP 10 (As 5 7),Aa 6 10] (Ag 6 .skip (Ab [oP 11 (As 5 8),Aa 6 11] (Ag 6 .skip (Ab [oP 12 (As 5 9),Aa 6 12] (Ag 6 .skip (Ab [oP 13 (As 5 13),Aa 6 13] (Ag 6 .skip (Ab [oP 14 (As 5 14),Aa 6 14] (Ag 6 .skip (Ab [oP 15 (As 5 16),Aa 6 15] (Ag 6 .skip (Bj [oP 16 (As 5 17),Aa 6 16]))))))))))))))))))) (Ag 6 (Ab [Aa 17 1,oP 18 (As 17 1)] (Ag 18 (Ab [oP 4 (.mv (cI 1))] .ret) .skip)) (Ab [oP 20 (As 5 4),Aa 19 20] (Ag 19 (Ab [Aa 21 1,oP 22 (As 21 1),Aa 23 22,oG 24 23 false 0 (mT 1),oG 25 23 false 0 (As 24 2),oP 26 (Db 23 25)] (Ag 26 (Ab [oP 4 (.mv (cI 1))] .ret) .skip)) (Ab [oP 28 (As 5 22),Aa 27 28] (Ag 27 (Ab [Aa 29 1,oP 30 (As 29 2)] (Ag 30 (Ab [oP 4 (.mv (cI 2))] .ret) .skip)) .skip)))))))) (Ab [oP 4 (.mv (cI 0))] .ret)))⟩
def tr99:trF Tryz.prog Tryz.f99=some af99:=by kernel_rfl
attribute [go_sem] af99
open Go Go.RowKit Go.Proofs.YtgfehkhcmnfpaaaGreatDoor
def mixed:Tryz.prog.follows .mixedOrders=true:=by kernel_rfl
abbrev Con(f:Nat)(args:List SV)(r:SV):Prop:=Contract Tryz.prog f args r
def Ac7(i:Int):Con 162 [.int .i64 i] (.agg true (tv (.mk 1 i 0 0 []))):=by
 refine (Cq (r:=.agg true [.int .i64 1,.int .i64 i,.int .i64 0,.int .i64 0,.nils]) mixed Tryz.func162 tr162 ?_).weaken (Qz _ _ _ _);simp only[go_sem,seval]
def Akk(k i j n:Int)(rows:GV)(h1:rows.length≠0)(h2:rows.length*56<=140737488355328)(h5:∀r∈rows,r.length=5)(H:∀r∈rows,Con 141 [.agg true r] (.agg true r)) :
  Con 141 [.agg true [.int .i64 k,.int .i64 i,.int .i64 j,.int .i64 n,.dsl 5 rows]] (.agg true [.int .i64 k,.int .i64 i,.int .i64 j,.int .i64 n,.dsl 5 rows]):=by
 refine Cq mixed Tryz.func141 tr141 ?_;simp only[go_sem,seval];intro _;refine⟨fun h=>?_,fun _=>?_⟩
 ·have:=eq_of_beq h;omega
 ·have h3:rows.length<=140737488355328:=by omega
  have e1:(0:Int)<=(rows.length:Int):=by omega
  have e2:((rows.length:Int)*56<=140737488355328):=by omega
  have e3:((rows.length:Int)<=140737488355328):=by omega
  simp only[go_sem,seval,h3,e1,e2,e3,Int.le_refl];refine Ni (fun x=>⟨[.J,.ref 0 0 0 0,.ref 1 0 0 0,.osl 2 0 0 rows.length,.J,.J,.J,.J,.J,.J,.J,.J,.J,.J,.J,.J,.J,.dsl 5 rows,.int .i64 rows.length,.int .i64 x,.J,.J,.J,.J,.J,.J,.J,.J,.J,.J,.J,.J,.J],[⟨true,5,[[.int .i64 k,.int .i64 i,.int .i64 j,.int .i64 n,.dsl 5 rows]],0,0,true⟩,⟨true,5,[[.int .i64 0,.int .i64 0,.int .i64 0,.int .i64 0,.nils]],0,0,true⟩,⟨false,5,rows.take x++List.replicate (rows.length-x) [.int .i64 0,.int .i64 0,.int .i64 0,.int .i64 0,.nils],0,0,true⟩]⟩) rows.length (fun x hx=>?_) ?_
  ·simp only[go_sem,seval];refine⟨fun h=>?_,fun h=>?_⟩
   ·have Az:=q_ks h;have Hh:x<rows.length:=by omega
    have e0:(0:Int)<=(x:Int):=by omega
    have hm:rows[x]?.getD []∈rows:=by rw[q_f Hh,q_jz];exact q_kd Hh
    have Ov:=h5 _ hm;simp only[go_sem,seval,Az,e0,Ov];refine Aj (H _ hm) ?_;simp only[go_sem,seval,Az,Hh,e0,Ov];refine⟨by simp;omega,?_⟩;rw[w64 (n:=(x:Int)+1) (by unfold fit;omega)];exact Jr 3 (by simp[Ci]) (by simp only[List.take_succ_cons,List.take_zero,Avg Hh]) (by simp[Dt]) (by simp)
   ·have Jc:=q_kt h;have Vv:x=rows.length:=by omega
    subst Vv;simp only[go_sem,seval,q_kk,List.take_take,Nat.min_self]
  ·simp only[List.take_zero,q_kl,q_kp];exact Cw (by simp[Ci])
def Akj(k i j n:Int)(rows:GV)(h1:rows=[]):Con 141 [.agg true [.int .i64 k,.int .i64 i,.int .i64 j,.int .i64 n,.dsl 5 rows]] (.agg true (tv (.mk k i j n []))):=by
 subst h1;refine (Cq (r:=.agg true [.int .i64 k,.int .i64 i,.int .i64 j,.int .i64 n,.nils]) mixed Tryz.func141 tr141 ?_).weaken (Qz _ _ _ _);simp only[go_sem,seval]
def Acw(t:Tm):TOk t->Con 141 [.agg true (tv t)] (.agg true (tv t)):=by
 induction t using Tm.ind with
 |h k i j n l ih=>
  intro hok;cases hok with
  |mk _ _ _ _ _ f1 f2 f3 f4 hb hl=>
  by_cases hz:l=[]
  ·subst hz;rw[Bo];have:=Akj k i j n [] rfl;rw[Bo] at this;exact this
  ·rw[Bo];refine Akk k i j n (l.map tv) (by simpa using hz) (by simpa using hb) (fun r hr=>?_) (fun r hr=>?_)
   ·obtain⟨t,_,rfl⟩:=q_kx.1 hr;exact Cg t
   ·obtain⟨t,ht,rfl⟩:=q_kx.1 hr;exact ih t ht (hl t ht)
def vr(i:Int):Tm:=.mk 2 i 0 0 []
def so(i:Int):Tm:=.mk 1 i 0 0 []
def pt(i:Int)(a x:Tm):Tm:=.mk 17 0 0 0 [so i,vr 0,a,x]
def tab(l:List Int)(k:Int):Int:=if 1<=k/\k<=l.length then l.getD (k-1).toNat (-1) else -1
def Tp(n:Int):Int:=tab [5,5,4,6,4,4,5,4,5,4,4,6,6,6,9,12,12,9,9,9,6] n
def Pi(k n:Int):Int:=if k=23 then Tp n else tab [0,0,2,3,4,2,4,3,3,3,2,4,2,2,2,2,4,1,1,3,2,6] k
def Bp{k c:Int}(h:k≠c):(k==c)=false:=by simpa using h
def Ald(n:Int):Con 130 [.int .i64 n] (.int .i64 (Tp n)):=by
 refine Cq mixed Tryz.func130 tr130 ?_
 by_cases h:1<=n/\n<=21
 ·have:n=1\/n=2\/n=3\/n=4\/n=5\/n=6\/n=7\/n=8\/n=9\/n=10\/n=11\/n=12\/n=13\/n=14\/n=15\/n=16\/n=17\/n=18\/n=19\/n=20\/n=21:=by omega
  clear h;rcases this with rfl|rfl|rfl|rfl|rfl|rfl|rfl|rfl|rfl|rfl|rfl|rfl|rfl|rfl|rfl|rfl|rfl|rfl|rfl|rfl|rfl<;>(as_aux_lemma=>(simp only[go_sem,seval];rfl))
 ·have e:Tp n=-1:=by unfold Tp tab;rw[if_neg (by simpa using h)]
  rw[e];simp only[go_sem,seval,Bp (show n≠1 by omega),Bp (show n≠2 by omega),Bp (show n≠3 by omega),Bp (show n≠4 by omega),Bp (show n≠5 by omega),Bp (show n≠6 by omega),Bp (show n≠7 by omega),Bp (show n≠8 by omega),Bp (show n≠9 by omega),Bp (show n≠10 by omega),Bp (show n≠11 by omega),Bp (show n≠12 by omega),Bp (show n≠13 by omega),Bp (show n≠14 by omega),Bp (show n≠15 by omega),Bp (show n≠16 by omega),Bp (show n≠17 by omega),Bp (show n≠18 by omega),Bp (show n≠19 by omega),Bp (show n≠20 by omega),Bp (show n≠21 by omega)]
def Acy(k n:Int):Con 90 [.int .i64 k,.int .i64 n] (.int .i64 (Pi k n)):=by
 refine Cq mixed Tryz.func90 tr90 ?_
 by_cases h:1<=k/\k<=22
 ·have:k=1\/k=2\/k=3\/k=4\/k=5\/k=6\/k=7\/k=8\/k=9\/k=10\/k=11\/k=12\/k=13\/k=14\/k=15\/k=16\/k=17\/k=18\/k=19\/k=20\/k=21\/k=22:=by omega
  clear h;rcases this with rfl|rfl|rfl|rfl|rfl|rfl|rfl|rfl|rfl|rfl|rfl|rfl|rfl|rfl|rfl|rfl|rfl|rfl|rfl|rfl|rfl|rfl<;>(as_aux_lemma=>(simp only[go_sem,seval];rfl))
 ·by_cases Bk:k=23
  ·subst Bk;simp only[go_sem,seval];refine Aj (Ald n) ?_;simp only[go_sem,seval];rfl
  ·have e:Pi k n=-1:=by unfold Pi tab;rw[if_neg Bk,if_neg (by simpa using h)]
   rw[e];simp only[go_sem,seval,Bp Bk,Bp (show k≠1 by omega),Bp (show k≠2 by omega),Bp (show k≠3 by omega),Bp (show k≠4 by omega),Bp (show k≠5 by omega),Bp (show k≠6 by omega),Bp (show k≠7 by omega),Bp (show k≠8 by omega),Bp (show k≠9 by omega),Bp (show k≠10 by omega),Bp (show k≠11 by omega),Bp (show k≠12 by omega),Bp (show k≠13 by omega),Bp (show k≠14 by omega),Bp (show k≠15 by omega),Bp (show k≠16 by omega),Bp (show k≠17 by omega),Bp (show k≠18 by omega),Bp (show k≠19 by omega),Bp (show k≠20 by omega),Bp (show k≠21 by omega),Bp (show k≠22 by omega)]
def lev(i:Int):Bool:=decide (0<=i) && decide (i<=1000)
def Rw(i:Int):Con 131 [.int .i64 i] (.bool (lev i)):=by
 refine Cq mixed Tryz.func131 tr131 ?_;simp only[go_sem,seval,lev];refine⟨fun h=>?_,fun h=>?_⟩<;>simp only[h,go_sem,seval]
def Lk(k i j n:Int):Bool:=
 if k=1\/k=10\/k=11\/k=12 then lev i && ((j==0) && (n==0))
 else if k=2 then decide (0<=i) && (decide (i<=2147483647) && ((j==0) && (n==0)))
 else if 3<=k/\k<=9 then lev i && (lev j && (n==0))
 else if k=23 then lev i && lev j
 else (i==0) && ((j==0) && (n==0))
def Akz(k i j n:Int)(rows:GV)(h:k=1\/k=10\/k=11\/k=12):Con 91 [.agg true [.int .i64 k,.int .i64 i,.int .i64 j,.int .i64 n,.dsl 5 rows]] (.bool (lev i && ((j==0) && (n==0)))):=by
 refine Cq mixed Tryz.func91 tr91 ?_;cases hL:lev i<;>cases hJ:(j==0)<;>cases hN:(n==0)<;>rcases h with rfl|rfl|rfl|rfl <;>
  (simp only[go_sem,seval];refine Aj (Rw i) ?_;simp only[go_sem,seval,hL,hJ,hN])
def Ak0(i j n:Int)(rows:GV):Con 91 [.agg true [.int .i64 2,.int .i64 i,.int .i64 j,.int .i64 n,.dsl 5 rows]] (.bool (decide (0<=i) && (decide (i<=2147483647) && ((j==0) && (n==0))))):=by
 refine Cq mixed Tryz.func91 tr91 ?_
 by_cases h1:0<=i<;>by_cases h2:i<=2147483647<;>cases hJ:(j==0)<;>cases hN:(n==0)<;>simp only[go_sem,seval,hJ,hN,h1,h2]
def Ak2(k i j n:Int)(rows:GV)(h:k=3\/k=4\/k=5\/k=6\/k=7\/k=8\/k=9):Con 91 [.agg true [.int .i64 k,.int .i64 i,.int .i64 j,.int .i64 n,.dsl 5 rows]] (.bool (lev i && (lev j && (n==0)))):=by
 refine Cq mixed Tryz.func91 tr91 ?_;cases hL:lev i
 ·rcases h with rfl|rfl|rfl|rfl|rfl|rfl|rfl<;>(as_aux_lemma=>(simp only[go_sem,seval];refine Aj (Rw i) ?_;simp only[go_sem,seval,hL]))
 ·cases hJ:lev j<;>cases hN:(n==0)<;>rcases h with rfl|rfl|rfl|rfl|rfl|rfl|rfl <;>
   (as_aux_lemma=>(simp only[go_sem,seval];refine Aj (Rw i) ?_;simp only[go_sem,seval,hL];refine Aj (Rw j) ?_;simp only[go_sem,seval,hL,hJ,hN]))
def Ak1(i j n:Int)(rows:GV):Con 91 [.agg true [.int .i64 23,.int .i64 i,.int .i64 j,.int .i64 n,.dsl 5 rows]] (.bool (lev i && lev j)):=by
 refine Cq mixed Tryz.func91 tr91 ?_;simp only[go_sem,seval];refine Aj (Rw i) ?_;cases hL:lev i
 ·simp only[go_sem,seval]
 ·simp only[go_sem,seval];refine Aj (Rw j) ?_;simp only[go_sem,seval]
def Aky(k i j n:Int)(rows:GV)(h:k<1\/(12<k/\k≠23)):Con 91 [.agg true [.int .i64 k,.int .i64 i,.int .i64 j,.int .i64 n,.dsl 5 rows]] (.bool ((i==0) && ((j==0) && (n==0)))):=by
 refine Cq mixed Tryz.func91 tr91 ?_;cases hI:(i==0)<;>cases hJ:(j==0)<;>cases hN:(n==0)<;>simp only[go_sem,seval,hI,hJ,hN,Bp (show k≠1 by omega),Bp (show k≠2 by omega),Bp (show k≠3 by omega),Bp (show k≠4 by omega),Bp (show k≠5 by omega),Bp (show k≠6 by omega),Bp (show k≠7 by omega),Bp (show k≠8 by omega),Bp (show k≠9 by omega),Bp (show k≠10 by omega),Bp (show k≠11 by omega),Bp (show k≠12 by omega),Bp (show k≠23 by omega)]
def Akx(k i j n:Int)(rows:GV):Con 91 [.agg true [.int .i64 k,.int .i64 i,.int .i64 j,.int .i64 n,.dsl 5 rows]] (.bool (Lk k i j n)):=by
 unfold Lk
 by_cases h1:k=1\/k=10\/k=11\/k=12
 ·rw[if_pos h1];exact Akz k i j n rows h1
 ·rw[if_neg h1]
  by_cases h2:k=2
  ·subst h2;rw[if_pos rfl];exact Ak0 i j n rows
  ·rw[if_neg h2]
   by_cases h3:3<=k/\k<=9
   ·rw[if_pos h3];exact Ak2 k i j n rows (by omega)
   ·rw[if_neg h3]
    by_cases h4:k=23
    ·subst h4;rw[if_pos rfl];exact Ak1 i j n rows
    ·rw[if_neg h4];exact Aky k i j n rows (by omega)
def Hv(k:Int):Int:=if k=1\/k=2 then 0 else if k<=12 then 1 else 2
def Alf(k:Int):Con 89 [.int .i64 k] (.int .i64 (Hv k)):=by
 refine Cq mixed Tryz.func89 tr89 ?_
 by_cases h1:k=1
 ·subst h1;simp only[go_sem,seval];rfl
 ·by_cases h2:k=2
  ·subst h2;simp only[go_sem,seval];rfl
  ·have e:Hv k=if k<=12 then 1 else 2:=by unfold Hv;rw[if_neg (by omega)]
   rw[e]
   by_cases h3:k<=12
   ·simp only[go_sem,seval,Bp h1,Bp h2,h3]
   ·simp only[go_sem,seval,Bp h1,Bp h2,h3]
abbrev Cp(f:Nat)(G:GV)(args:List SV)(out:HOut)(G':GV):Prop:=HContract Tryz.prog f G args out G'
def Ec:List Nat->SV
 |[]=>.nilp
 |h::t=>.dref 3 [.gp h 0,Ec t,.int .i64 ((t.length:Int)+1)] 0
def Oo:Ec []=.nilp:=rfl
def Uc(e:List Nat){hp:List Ob}:Cz hp (Ec e)=some (Ec e,hp)/\Dc hp (Ec e)=some (Ec e,hp)/\Do hp (Ec e)=[]/\Ct (Ec e)=[]/\(Ec e).closed=true/\(Ec e).ok=true/\cellsOf (Ec e)=[Ec e]:=by
 cases e<;>exact⟨rfl,rfl,rfl,rfl,rfl,rfl,rfl⟩
def Amn{e:List Nat}{hp:List Ob}:Cz hp (Ec e)=some (Ec e,hp):=(Uc e).1
def Amo{e:List Nat}{hp:List Ob}:Do hp (Ec e)=[]:=(Uc e).2.2.1
def Amm{e:List Nat}:(Ec e).closed=true:=(Uc (hp:=[]) e).2.2.2.2.1
def Amp{e:List Nat}:(Ec e).ok=true:=(Uc (hp:=[]) e).2.2.2.2.2.1
def Aml{e:List Nat}:cellsOf (Ec e)=[Ec e]:=(Uc (hp:=[]) e).2.2.2.2.2.2
attribute [go_sem] Amn Amo Amm Amp Aml
def Dp(steps most seen guess:Int)(j:Nat):List SV:=[.int .i64 steps,.int .i64 most,.int .i64 seen,.int .i64 guess,.mp j]
def Se{G:GV}{m:Nat}{r x:List SV}(h:G[m]?=some r):(G.set m x)[m]?=some x:=by
 rw[q_jq];rcases q_jo m G.length with h1|h1
 ·exact h1
 ·rw[q_jd h1] at h;cases h
def Apu{G:GV}{m:Nat}{r:List SV}(h:G[m]?=some r):G.set m r=G:=by
 refine List.ext_getElem? fun i=>?_
 by_cases hi:m=i
 ·subst hi;rw[Se h,h]
 ·rw[q_jc hi]
def Wj{α:Type}{l:List α}{i:Nat}{a b:α}:(l.set i a).set i b=l.set i b:=List.set_set ..
def Aql{G:GV}{m j:Nat}{steps most seen guess:Int}(hG:G[m]?=some (Dp steps most seen guess j))(hg:¬guess > 0):Cp 227 G [.gp m 0] (.ret (.tup [])) G:=by
 refine Ca mixed Tryz.func227 tr227 ?_;simp only[go_sem,seval,hG,Dp,q_je hg]
def Np(g:Int):Int:=if g > 0 then g-1 else g
def Aqk{G:GV}{m j:Nat}{steps most seen guess:Int}(hG:G[m]?=some (Dp steps most seen guess j))(hf:fit guess)(hg:guess≠1):Cp 227 G [.gp m 0] (.ret (.tup [])) (G.set m (Dp steps most seen (Np guess) j)):=by
 by_cases h:guess > 0
 ·refine Ca mixed Tryz.func227 tr227 ?_;simp only[go_sem,seval,hG,Dp,q_jn h,w64 (show fit (guess-1) by unfold fit at hf |-;omega),Yz,Se hG,Bp (show guess-1≠0 by omega),Np,if_pos h]
 ·rw[show G.set m (Dp steps most seen (Np guess) j)=G by rw[Np,if_neg h];exact Apu hG];exact Aql hG h
def Aqf{G:GV}{m j:Nat}{steps most seen guess:Int}(hG:G[m]?=some (Dp steps most seen guess j))(hf:fit guess)(hg:guess≠1)(h0:0<=seen)(hs:seen<8000000) :
  Cp 206 G [.gp m 0] (.ret (.tup [])) (G.set m (Dp steps most (seen+1) (Np guess) j)):=by
 refine Ca mixed Tryz.func206 tr206 ?_;simp only[go_sem,seval];refine Ad (Aqk hG hf hg) ?_;simp only[go_sem,seval,Dp,Se hG,Yz,Wj,w64 (show fit (seen+1) by unfold fit;omega),q_je (show ¬seen+1 > 8000000 by omega)]
def Aef(G:GV)(most:Int):Cp 144 G [.int .i64 most] (.ret (.gp (G.length+1) 0)) (G++[[.undef],Dp 0 most 0 0 G.length]):=by
 refine Ca mixed Tryz.func144 tr144 ?_;simp only[go_sem,seval,Dp,q_ju]
def Aeg{G:GV}{m j:Nat}{steps most seen guess:Int}(hG:G[m]?=some (Dp steps most seen guess j))(most':Int) :
  Cp 175 G [.gp m 0,.int .i64 most'] (.ret (.tup [])) (G.set m (Dp 0 most' 0 guess j)):=by
 refine Ca mixed Tryz.func175 tr175 ?_;simp only[go_sem,seval,hG,Dp,Se hG,Yz,Wj]
structure Vl where
 k:Int
 i:Int
 j:Int
 n:Int
 level:Int
 kids:List Nat
def Wn:List Nat->SV
 |[]=>.nils
 |i::l=>.dsl 1 ([.gp i 0]::l.map fun i=>[.gp i 0])
def Avs:Wn []=.nils:=rfl
def Aht{l:List Nat}(h:l≠[]):Wn l=.dsl 1 (l.map fun i=>[.gp i 0]):=by
 cases l with
 |nil=>exact absurd rfl h
 |cons i l=>rfl
def vlC(v:Vl):List SV:=[.int .i64 v.k,.int .i64 v.i,.int .i64 v.j,.int .i64 v.n,.int .i64 v.level,Wn v.kids]
def vlV(v:Vl):SV:=.dref 6 (vlC v) 0
structure Th where
 t:Tm
 env:List Nat
 bare:Bool
 w:Option Vl
 v:Option Vl
def Et:Option Vl->SV
 |none=>.nilp
 |some v=>vlV v
def thT(x:Th):List SV:=if x.bare then [.int .i64 0,.int .i64 0,.int .i64 0,.int .i64 0,.nils] else tv x.t
def thR(x:Th):List SV:=thT x++[Ec x.env,.bool x.bare,Et x.w,Et x.v]
def Ahs(x:Th):(thT x).length=5:=by unfold thT;split<;>simp[Cg]
def Avo{x:Th}:(thR x).length=9:=by simp[thR,Ahs]
def Ts(x:Th):∃a b c d f,thT x=[a,b,c,d,f]:=by
 have h:=Ahs x
 match thT x,h with
 |[a,b,c,d,f],_=>exact⟨a,b,c,d,f,rfl⟩
def Avq{t:Tm}{e:List Nat}{w v:Option Vl}{cl:Bool}:cut cl 9 true 5 0 (thR ⟨t,e,false,w,v⟩)=.agg cl (tv t):=by simp[cut,thR,thT,Ahw]
def Ahq{x:Th}{v:Vl}:Dd 9 1 7 (thR x) [vlV v]=thR { x with w:=some v }:=by
 obtain⟨a,b,c,d,f,h⟩:=Ts x;have h2:thT { x with w:=some v }=[a,b,c,d,f]:=h;simp[Dd,thR,h,h2,Et]
def Ahr{x:Th}{v:Vl}:Dd 9 1 8 (thR x) [vlV v]=thR { x with v:=some v }:=by
 obtain⟨a,b,c,d,f,h⟩:=Ts x;have h2:thT { x with v:=some v }=[a,b,c,d,f]:=h;simp[Dd,thR,h,h2,Et]
def Avk{x:Th}:(thR x)[5]?.getD .undef=Ec x.env:=by
 obtain⟨a,b,c,d,f,h⟩:=Ts x;simp[thR,h]
def Avl{x:Th}:(thR x)[6]?.getD .undef=.bool x.bare:=by
 obtain⟨a,b,c,d,f,h⟩:=Ts x;simp[thR,h]
def Avm{x:Th}:(thR x)[7]?.getD .undef=Et x.w:=by
 obtain⟨a,b,c,d,f,h⟩:=Ts x;simp[thR,h]
def Avn{x:Th}:(thR x)[8]?.getD .undef=Et x.v:=by
 obtain⟨a,b,c,d,f,h⟩:=Ts x;simp[thR,h]
def Awj{v:Vl}:(vlC v)[0]?.getD .undef=.int .i64 v.k:=q_z
def Awk{v:Vl}:(vlC v)[1]?.getD .undef=.int .i64 v.i:=q_z
def Awl{v:Vl}:(vlC v)[5]?.getD .undef=Wn v.kids:=q_z
def Avp{x:Th}:Km (thR x)=false:=by
 unfold thR thT;split
 ·rfl
 ·cases x.t;rw[Bo];rfl
def Awn{v:Vl}{hp:List Ob}:Cz hp (vlV v)=some (vlV v,hp):=q_z
def Awo{v:Vl}:(vlV v).ok=true:=q_z
def Awm{v:Vl}:cellsOf (vlV v)=[vlV v]:=q_z
def Yt{v:Vl}:Et (some v)=vlV v:=q_z
def Abi:Et none=.nilp:=q_z
attribute [go_sem] Avk Avl Avm Avn Awj Awk Awl Avo Avq Ahq Ahr Avp Awn Awo Awm
def Ao4{a b c d f c0 c1 c2 c3 c4 c5 c6 c7 c8:SV}{r:List (Nat×Nat×SV)}:fill [c0,c1,c2,c3,c4,c5,c6,c7,c8] ((0,5,.agg true [a,b,c,d,f])::r)=fill [a,b,c,d,f,c5,c6,c7,c8] r:=by
 simp[fill,Dd,cellsOf]
attribute [go_sem] Ao4
def Ut(G:GV)(t:Tm)(e:List Nat):Cp 114 G [.agg true (tv t),Ec e] (.ret (.gp G.length 0)) (G++[thR ⟨t,e,false,none,none⟩]):=by
 refine Ca mixed Tryz.func114 tr114 ?_;simp only[go_sem,seval,Ahw,thR,thT,Et]
def j9(w:Option Vl)(v:Option Vl):List SV:=thR ⟨.mk 0 0 0 0 [],[],true,w,v⟩
def Ap0(G:GV)(v:Vl):Cp 181 G [vlV v] (.ret (.gp G.length 0)) (G++[j9 (some v) none]):=by
 refine Ca mixed Tryz.func181 tr181 ?_;simp only[go_sem,seval,j9,thR,thT,Et,vlV,Oo]
def j4(k:Int):Con 223 [.int .i64 k] (.int .i64 (if k=15\/k=18\/k=19 then 0 else if k=22 then 5 else -1)):=by
 refine Cq mixed Tryz.func223 tr223 ?_
 by_cases h1:k=15
 ·subst h1;simp only[go_sem,seval]
 by_cases h2:k=18
 ·subst h2;simp only[go_sem,seval]
 by_cases h3:k=19
 ·subst h3;simp only[go_sem,seval]
 by_cases h4:k=22
 ·subst h4;simp only[go_sem,seval]
 simp only[go_sem,seval,Bp h1,Bp h2,Bp h3,Bp h4,h1,h2,h3,h4,or_self,if_false]
def Agr(y:Option Vl){hp:List Ob}:Cz hp (Et y)=some (Et y,hp)/\Dc hp (Et y)=some (Et y,hp)/\Do hp (Et y)=[]/\Ct (Et y)=[]/\(Et y).closed=true/\(Et y).ok=true/\cellsOf (Et y)=[Et y]:=by
 cases y<;>exact⟨rfl,rfl,rfl,rfl,rfl,rfl,rfl⟩
def Atq{e:Option Vl}{hp:List Ob}:Cz hp (Et e)=some (Et e,hp):=(Agr e).1
def Atr{e:Option Vl}{hp:List Ob}:Do hp (Et e)=[]:=(Agr e).2.2.1
attribute [go_sem] Atq Atr
def Aix(n:Nat)(e:List Nat):Dt n (Ec e)=true:=by cases e<;>rfl
def Aiy(n:Nat)(e:Option Vl):Dt n (Et e)=true:=by cases e<;>rfl
attribute [go_sem] Aix Aiy
def Yo(k:Int)(y:Option Vl)(e:List Nat)(i:Nat)(kid:Tm):List SV:=if (i:Int)=k then j9 y none else thR ⟨kid,e,false,none,none⟩
def Hu(k:Int)(y:Option Vl)(e:List Nat):Nat->List Tm->GV
 |_,[]=>[]
 |i,x::l=>Yo k y e i x::Hu k y e (i+1) l
def As4(k:Int)(y:Option Vl)(e:List Nat):∀(a b:List Tm) (i:Nat),Hu k y e i (a++b)=Hu k y e i a++Hu k y e (i+a.length) b:=by
 intro a
 induction a with
 |nil=>intro b i;simp[Hu]
 |cons x a ih=>intro b i;simp only[q_km,Hu,ih,q_jk];rw[show i+1+a.length=i+(a.length+1) by omega]
def As5(k:Int)(y:Option Vl)(e:List Nat):∀(a:List Tm) (i:Nat),(Hu k y e i a).length=a.length:=by
 intro a
 induction a with
 |nil=>intro i;rfl
 |cons x a ih=>intro i;simp[Hu,ih]
def Aiz{a b:Int}(h:a=b):(a==b)=true:=by simpa using h
def Aqa{G:GV}{m:Nat}(k' i' j' n':Int)(l:List Tm)(hb:l.length*56<=140737488355328)(hz:l≠[])(e:List Nat)(k:Int)(y:Option Vl)(hy:∀q:Nat,q<l.length->(q:Int)=k->∃v,y=some v) :
  Cp 230 G [.gp m 0,.agg true (tv (.mk k' i' j' n' l)),Ec e,.int .i64 k,Et y] (.ret (vlV ⟨k',i',j',n',0,List.range' G.length l.length⟩)) (G++Hu k y e 0 l):=by
 refine Ca mixed Tryz.func230 tr230 ?_;rw[Bo];have Bf:0<l.length:=List.length_pos_iff.2 hz;have h3:l.length<=140737488355328:=by omega
 have e1:(0:Int)<=(l.length:Int):=by omega
 have e2:((l.length:Int)*8<=140737488355328):=by omega
 have e3:((l.length:Int)<=140737488355328):=by omega
 simp only[go_sem,seval,q_g,h3,q_jn (show (l.length:Int) > 0 by omega),e1,e2,e3,Int.le_refl];have hlx:∀x,x<=l.length->(G++Hu k y e 0 (l.take x)).length=G.length+x:=fun x hx=>by rw[q_jr,As5,q_kf,Nat.min_eq_left hx]
 have Mx:∀x,(h:x<l.length)->G++Hu k y e 0 (l.take (x+1))=(G++Hu k y e 0 (l.take x))++[Yo k y e x l[x]]:=fun x h=>by
  rw[List.take_succ_eq_append_getElem h,As4,q_ju,q_kf,Nat.min_eq_left (by omega),q_jg];rfl
 refine Ni (fun x=>⟨(.gp m 0::.J::Ec e::.int .i64 k::Et y::.J::.ref 1 0 0 0::jk4 (.ref 2 0 0 0::Fe (jk8 (.dsl 5 (l.map tv)::.int .i64 l.length::.int .i64 x::Fe (jk8 (jk2 ([]))))))),[gOb (G++Hu k y e 0 (l.take x)),⟨true,5,[[.int .i64 k',.int .i64 i',.int .i64 j',.int .i64 n',.dsl 5 (l.map tv)]],0,0,true⟩,⟨true,6,[[.int .i64 k',.int .i64 i',.int .i64 j',.int .i64 n',.int .i64 0,.osl 3 0 0 l.length]],0,0,false⟩,⟨false,1,((List.range' G.length x).map fun i=>[SV.gp i 0])++List.replicate (l.length-x) [.nilp],0,0,true⟩]⟩) l.length (fun x hx=>?_) ?_
 ·by_cases Az:x<l.length
  ·have e0:(0:Int)<=(x:Int):=by omega
   have hg:(l.map tv)[x]?.getD []=tv l[x]:=by rw[q_ji,q_f Az];rfl
   have hset:(((List.range' G.length x).map fun i=>[SV.gp i 0])++List.replicate (l.length-x) [SV.nilp]).set x [SV.gp (G.length+x) 0]=((List.range' G.length (x+1)).map fun i=>[SV.gp i 0])++List.replicate (l.length-(x+1)) [SV.nilp]  :=by
    rw[List.set_append_right _ _ (by simp),q_g,List.length_range',Nat.sub_self,show l.length-x=(l.length-(x+1))+1 by omega,List.replicate_succ,List.set_cons_zero,List.range'_concat,q_kr,q_ju,Nat.one_mul];rfl
   by_cases hk:(x:Int)=k
   ·obtain⟨yv,rfl⟩:=hy x Az hk;simp only[go_sem,seval,q_jn (show (x:Int)<l.length by omega),e0,q_g,Az,hg,Cg,Aiz hk];refine⟨by omega,Ad (Ap0 _ yv) ?_⟩;simp only[go_sem,seval,hlx x (Nat.le_of_lt Az),q_jr,q_g,List.length_range',q_ki,e0,hset,show (x:Int)<l.length by omega,show x<x+(l.length-x) by omega,w64 (show fit ((x:Int)+1) by unfold fit;omega)];refine⟨Az,?_⟩;rw[Mx x Az,Yo,if_pos hk];exact Jr 4 (by simp[Ci,Oo]) (by simp only[List.take_succ_cons,List.take_zero]) (by simp only[go_sem,seval,List.forall_mem_cons]) (by simp[Dt,gOb])
   ·simp only[go_sem,seval,q_jn (show (x:Int)<l.length by omega),e0,q_g,Az,hg,Cg,Bp hk];refine⟨by omega,Ad (Ut _ _ e) ?_⟩;simp only[go_sem,seval,hlx x (Nat.le_of_lt Az),q_jr,q_g,List.length_range',q_ki,e0,hset,show (x:Int)<l.length by omega,show x<x+(l.length-x) by omega,w64 (show fit ((x:Int)+1) by unfold fit;omega)];refine⟨Az,?_⟩;rw[Mx x Az,Yo,if_neg hk];exact Jr 4 (by simp[Ci,Oo]) (by simp only[List.take_succ_cons,List.take_zero]) (by simp only[go_sem,seval,List.forall_mem_cons]) (by simp[Dt,gOb])
  ·have:x=l.length:=by omega
   subst this;simp only[go_sem,seval,q_je (show ¬((l.length:Nat):Int)<l.length by omega),q_kk,Nat.sub_self,List.replicate_zero];rw[vlV,vlC,Aht (by simp[List.range'_eq_nil_iff];omega),q_js (by simp)]
 ·simp only[List.take_zero,Hu,q_k,List.range'_zero,q_i,q_kl,q_kp];exact Cw (by simp[Ci])
def Zl{C:CT}{b:AC}{Q:AE->St->Prop}{n:Nat}{s s':St}(h:Wk s s')(k:vcI C b Q n s'):vcI C b Q n s:=by
 cases n with
 |zero=>exact k
 |succ n=>
  obtain⟨s0,h1,h2⟩:=k;exact⟨s0,.trans h h1,h2⟩
def EvL(G:GV)(m:Nat)(t:Tm)(e:List Nat)(out:HOut)(G':GV):Prop:=
 ∃n,vcI (Dy Tryz.prog fun x G1=>out=.pan x/\G1=G') a221_54 (bk 0 (rtG [.t 6] out G')) n ⟨(.gp m 0::.J::Ec e::.J::.ref 1 0 0 0::Gd (Gd (Gd (Gd (Fe (.J::[])))))),[gOb G,⟨true,5,[tv t],0,0,true⟩]⟩
def Ap1{G G':GV}{m:Nat}{t:Tm}{e:List Nat}{out:HOut}(h:EvL G m t e out G'):Cp 221 G [.gp m 0,.agg true (tv t),Ec e] out G':=by
 refine Ca mixed Tryz.func221 tr221 ?_;obtain⟨n,h⟩:=h;simp only[go_sem,seval,Cg];exact Eo n (Zl (Cw (by simp[Ci])) h)
def Ac9{k:Int}(h:k≠15/\k≠18/\k≠19/\k≠22):Con 223 [.int .i64 k] (.int .i64 (-1)):=by
 have:=j4 k
 rwa [if_neg (by omega),if_neg h.2.2.2] at this
def Alb{k:Int}(h:k=15\/k=18\/k=19):Con 223 [.int .i64 k] (.int .i64 0):=by
 have:=j4 k
 rwa [if_pos h] at this
def Alc:Con 223 [.int .i64 22] (.int .i64 5):=j4 22
def Aqb{G:GV}{m:Nat}(k' i' j' n':Int)(e:List Nat)(k:Int)(y:Option Vl) :
  Cp 230 G [.gp m 0,.agg true (tv (.mk k' i' j' n' [])),Ec e,.int .i64 k,Et y] (.ret (vlV ⟨k',i',j',n',0,[]⟩)) G:=by
 refine Ca mixed Tryz.func230 tr230 ?_;rw[Bo];simp only[go_sem,seval,q_i];refine Eo 1 (Bb ?_);simp only[go_sem,seval,vlV,vlC,Avs]
def Yp(k' i' j' n':Int)(l:List Tm)(a:Nat):Vl:=⟨k',i',j',n',0,List.range' a l.length⟩
def Aqc{G:GV}{m:Nat}(k' i' j' n':Int)(l:List Tm)(hb:l.length*56<=140737488355328)(e:List Nat)(k:Int)(y:Option Vl)(hy:∀q:Nat,q<l.length->(q:Int)=k->∃v,y=some v) :
  Cp 230 G [.gp m 0,.agg true (tv (.mk k' i' j' n' l)),Ec e,.int .i64 k,Et y] (.ret (vlV (Yp k' i' j' n' l G.length))) (G++Hu k y e 0 l):=by
 by_cases hz:l=[]
 ·subst hz;have:=Aqb (G:=G) (m:=m) k' i' j' n' e k y;simpa [Yp,Hu] using this
 ·exact Aqa k' i' j' n' l hb hz e k y hy
def Ao1{G:GV}{m:Nat}{k i j n:Int}{l:List Tm}{e:List Nat}(hb:l.length*56<=140737488355328)(hk:k≠2)(hs:k≠15/\k≠18/\k≠19/\k≠22):EvL G m (.mk k i j n l) e (.ret (vlV (Yp k i j n l G.length))) (G++Hu (-1) none e 0 l):=by
 refine⟨1,Bb ?_⟩;have hc:=Aqc (G:=G) (m:=m) k i j n l hb e (-1) none (fun q _ h=>by omega);rw[Abi,Bo] at hc;rw[Bo]
 repeat' first
 |simp only[go_sem,seval,Bp hk]
 |refine Aj (Ac9 hs) ?_
 |refine Ad hc ?_
def Aa6{α:Type}{l:List α}{i:Nat}{x:α}(h:l[i]?=some x):i<l.length:=by
 rcases q_jo i l.length with h1|h1
 ·exact h1
 ·rw[q_jd h1] at h;cases h
def Ahu{l:List Nat}{q id:Nat}(h:l[q]?=some id):Wn l=.dsl 1 (l.map fun i=>[.gp i 0])/\(q:Int)<l.length/\q<l.length/\(l.map fun i=>[SV.gp i 0])[q]?.getD []=[.gp id 0]:=by
 have hq:q<l.length:=by
  rcases q_jo q l.length with h1|h1
  ·exact h1
  ·rw[q_jd h1] at h;cases h
 refine⟨Aht (by rintro rfl;simp at hq),by omega,hq,by simp[h]⟩
def Awp{G G1:GV}{m id:Nat}{th th1:Th}{v:Vl}(h:G[id]?=some (thR th))(hw:th.w=none)(hb:th.bare=false)(he:Cp 221 G [.gp m 0,.agg true (tv th.t),Ec th.env] (.ret (vlV v)) G1)(h1:G1[id]?=some (thR th1)) :
  Cp 201 G [.gp m 0,.gp id 0] (.ret (vlV v)) (G1.set id (thR { th1 with w:=some v })):=by
 refine Ca mixed Tryz.func201 tr201 ?_;obtain⟨t,te,b,w,x⟩:=th;simp only at hw hb he;subst hw hb;simp only[go_sem,seval,h,Abi];refine Ad he ?_;have Az:=Aa6 h1;simp only[go_sem,seval,h1,Ahq,Se h1,Wj,Yt,q_jq Az]
inductive Ok(G:GV):Vl->Prop
 |base {v:Vl} (h:v.k≠23) (hs:v.k≠15/\v.k≠18/\v.k≠19/\v.k≠22):Ok G v
 |step0 {v y:Vl} {id:Nat} {th:Th} (h:v.k=15\/v.k=18\/v.k=19) (Ly:v.kids[0]?=some id) (Vp:G[id]?=some (thR th)) (hw:th.w=some y) (hy:Ok G y):Ok G v
 |step5 {v y:Vl} {id:Nat} {th:Th} (h:v.k=22) (Ly:v.kids[5]?=some id) (Vp:G[id]?=some (thR th)) (hw:th.w=some y) (hy:Ok G y):Ok G v
def Ah8(G:GV)(m:Nat)(v:Vl)(out:HOut):Prop:=
 ∃n,vcI (Dy Tryz.prog fun x G1=>out=.pan x/\G1=G) a202_24 (bk 0 (rtG [.t 4] out G)) n ⟨(.gp m 0::vlV v::.J::.J::.int .i64 0::Gd (Fe (jk2 ([])))),[gOb G]⟩
def Avd{G:GV}{m:Nat}{v:Vl}(h:Ok G v){out:HOut}(ho:out=.ret (.int .i64 0)):Ah8 G m v out:=by
 induction h with
 |base h hs=>
  refine⟨1,Bb ?_⟩;simp only[go_sem,seval,vlV,Bp h];refine Aj (Ac9 hs) ?_;subst ho;simp only[go_sem,seval]
 |@step0 v y id th h Ly Vp hw hy ih=>
  obtain⟨n,ih⟩:=ih;refine⟨n+1,Bb ?_⟩;obtain⟨k1,k2,k3,k4⟩:=Ahu Ly;have k2':(0:Int)<v.kids.length:=by omega
  have Bk:v.k≠23:=by omega
  obtain⟨t,te,b,w,x⟩:=th;simp only at hw;subst hw;simp only[go_sem,seval,vlV,Bp Bk];refine Aj (Alb h) ?_;simp only[go_sem,seval,vlV,k1,k2',k3,k4,Vp,Yt,q_g];exact Zl (Cw (by simp[Ci,vlV])) ih
 |@step5 v y id th h Ly Vp hw hy ih=>
  obtain⟨n,ih⟩:=ih;refine⟨n+1,Bb ?_⟩;obtain⟨k1,k2,k3,k4⟩:=Ahu Ly;have k2':(5:Int)<v.kids.length:=by omega
  have Bk:v.k≠23:=by omega
  have h5:Con 223 [.int .i64 v.k] (.int .i64 5):=by rw[h];exact Alc
  obtain⟨t,te,b,w,x⟩:=th;simp only at hw;subst hw;simp only[go_sem,seval,vlV,Bp Bk];refine Aj h5 ?_;simp only[go_sem,seval,vlV,k1,k2',k3,k4,Vp,Yt,q_g];exact Zl (Cw (by simp[Ci,vlV])) ih
def Aqh{G:GV}{m:Nat}{v:Vl}(h:Ok G v):Cp 202 G [.gp m 0,vlV v] (.ret (.int .i64 0)) G:=by
 obtain⟨out,ho⟩:∃out,out=HOut.ret (.int .i64 0):=⟨_,rfl⟩
 rw[<-ho];refine Ca mixed Tryz.func202 tr202 ?_;obtain⟨n,h⟩:=Avd (m:=m) h ho;simp only[go_sem,seval];exact Eo n (Zl (Cw (by simp[Ci])) h)
def Aqq{G G1:GV}{m id:Nat}{th th1:Th}{v:Vl}(h:G[id]?=some (thR th))(hv:th.v=none)(he:Cp 201 G [.gp m 0,.gp id 0] (.ret (vlV v)) G1)(h1:G1[id]?=some (thR th1))(hn:Ok G1 v) :
  Cp 172 G [.gp m 0,.gp id 0] (.ret (vlV v)) (G1.set id (thR { th1 with v:=some v })):=by
 refine Ca mixed Tryz.func172 tr172 ?_;obtain⟨t,te,b,w,y⟩:=th;simp only at hv;subst hv;simp only[go_sem,seval,h,Abi];refine Ad he ?_;have Az:=Aa6 h1
 repeat' first
 |simp only[go_sem,seval,h1,Ahr,Se h1,Wj,Yt,q_jq Az]
 |refine Eo 1 (Bb ?_)
 |refine Ad (Aqh hn) ?_
def Jp(k i j n want:Int)(len:Nat):Bool:=(!(want != 0) || (!(Hv k != 0) || !(Hv k != want))) && (!((len:Int) != Pi k n) && Lk k i j n)
def ofN(k:Int)(i:Nat):Int:=if k=12/\i=2 then 2 else Hv k
def Ak8(k i j n want:Int)(rows:GV)(W:Nat->List SV->Bool)(h2:rows.length*56<=140737488355328)(h5:∀r∈rows,r.length=5)
  (H:∀p,∀r∈rows,Con 56 [.agg true r,.int .i64 (ofN k p)] (.bool (W p r))) :
  Con 56 [.agg true [.int .i64 k,.int .i64 i,.int .i64 j,.int .i64 n,.dsl 5 rows],.int .i64 want] (.bool (Jp k i j n want rows.length && Gw W 0 rows)):=by
 refine Cq mixed Tryz.func56 tr56 ?_;simp only[go_sem,seval];refine Aj (Alf k) ?_;simp only[go_sem,seval];unfold Jp;cases hw:(want != 0)<;>cases hs:(Hv k != 0)<;>cases hd:(Hv k != want)<;>simp only[go_sem,seval,hs,hd]
 all_goals
  refine Aj (Acy k n) ?_;cases hK:((rows.length:Int) != Pi k n)<;>simp only[go_sem,seval,hK];refine Aj (Akx k i j n rows) ?_;cases hN:Lk k i j n<;>simp only[go_sem,seval,hN];intros;refine Ab0 (fun x=>⟨(.J::.J::.ref 0 0 0 0::.J::.J::.int .i64 (Hv k)::Gd (.dsl 5 rows::.int .i64 rows.length::.int .i64 x::Fe (.J::[]))),[⟨true,5,[[.int .i64 k,.int .i64 i,.int .i64 j,.int .i64 n,.dsl 5 rows]],0,0,true⟩]⟩) rows.length (fun x=>W x (rows[x]?.getD [])=true) (fun x hx hp=>?_) ?_
  ·simp only[go_sem,seval,Agc,Agb,Agd];refine⟨fun h=>?_,fun h=>?_⟩
   ·have Az:=q_ks h;have Hh:x<rows.length:=by omega
    have e0:(0:Int)<=(x:Int):=by omega
    have hm:=Sd (d:=[]) Hh;have Ov:=h5 _ hm;have ho:=H x _ hm;have eo:ofN k x=bif (k==12) && ((x:Int)==2) then 2 else Hv k:=by
     unfold ofN
     by_cases a:k=12
     ·by_cases b:x=2
      ·subst b;rw[if_pos ⟨a,rfl⟩,a];rfl
      ·rw[if_neg (fun h=>b h.2),Bp (show (x:Int)≠2 by omega),q_kz];rfl
     ·rw[if_neg (fun h=>a h.1),Bp a,q_l];rfl
    simp only[go_sem,seval,Az,e0,Ov];cases h12:(k==12)<;>cases hx2:((x:Int)==2)<;>simp only[go_sem,seval,hx2]
    all_goals
     simp only[h12,hx2,q_ky,q_kz,Bool.true_and,q_l,cond_true,cond_false] at eo;rw[eo] at ho;refine Aj ho ?_;cases hW:W x (rows[x]?.getD [])<;>simp only[go_sem,seval]
     ·rw[Aih (d:=[]) (i:=x) Hh (by rw[q_jg];exact hW)]
     ·refine⟨Hh,?_⟩;rw[w64 (n:=(x:Int)+1) (by unfold fit;omega)];exact Jr 1 (by simp[Ci]) (by simp only[List.take_succ_cons,List.take_zero]) (by simp[Dt]) (by simp)
   ·have Jc:=q_kt h;have Vv:x=rows.length:=by omega
    simp only[go_sem,seval,h];rw[Aii (d:=[]) (f:=W) (fun j hj=>by rw[q_jg];exact hp j (by omega))]
  ·exact Cw (by simp[Ci])
def Ash{l:List Tm}(ih:∀a∈l,∀b,tv a=tv b->a=b):∀{r:List Tm},l.map tv=r.map tv->l=r:=by
 induction l with
 |nil=>intro r h;cases r with
  |nil=>rfl
  |cons b r=>simp at h
 |cons a l ihl=>
  intro r h;cases r with
  |nil=>simp at h
  |cons b r=>
   simp only[q_h,List.cons.injEq] at h;rw[ih a (by simp) b h.1,ihl (fun x hx=>ih x (by simp[hx])) h.2]
def Av2(a:Tm):∀b,tv a=tv b->a=b:=by
 induction a using Tm.ind with
 |h k i j n l ih=>
  intro b h;cases b with
  |mk k' i' j' n' l'=>
   rw[Bo,Bo] at h;simp only[List.cons.injEq,SV.int.injEq,SV.dsl.injEq,true_and,and_true] at h;obtain⟨rfl,rfl,rfl,rfl,h5⟩:=h;rw[Ash ih h5]
noncomputable def onT {α:Type}(f:Tm->α)(d:α)(r:List SV):α:=open Classical in if h:∃t,tv t=r then f (Classical.choose h) else d
def Agp{α:Type}(f:Tm->α)(d:α)(t:Tm):onT f d (tv t)=f t:=by
 have h:∃u,tv u=tv t:=⟨t,rfl⟩
 unfold onT;rw[dif_pos h,Av2 _ _ (Classical.choose_spec h)]
def rows5(l:List Tm):∀r∈l.map tv,r.length=5:=fun r hr=>by obtain⟨t,_,rfl⟩:=q_kx.1 hr;exact Cg t
mutual
def Ek:Tm->Int->Bool
 |.mk k i j n l,want=>Jp k i j n want l.length && Wi k 0 l
def Wi(k:Int):Nat->List Tm->Bool
 |_,[]=>true
 |p,t::l=>Ek t (ofN k p) && Wi k (p+1) l
end
def Aun(k:Int):∀(l:List Tm) (p:Nat),Wi k p l=Gw (fun p t=>Ek t (ofN k p)) p l:=by
 intro l
 induction l with
 |nil=>intro p;rw[Wi];rfl
 |cons t l ih=>intro p;rw[Wi,Gw,ih]
def Na(k i j n:Int)(l:List Tm)(want:Int):Ek (.mk k i j n l) want=(Jp k i j n want l.length && Gw (fun p t=>Ek t (ofN k p)) 0 l):=by rw[Ek,Aun]
def i8(t:Tm):TOk t->∀want,Con 56 [.agg true (tv t),.int .i64 want] (.bool (Ek t want)):=by
 induction t using Tm.ind with
 |h k i j n l ih=>
  intro hok want;cases hok with
  |mk _ _ _ _ _ f1 f2 f3 f4 hb hl=>
  have h:=Ak8 k i j n want (l.map tv) (fun p r=>onT (fun t=>Ek t (ofN k p)) false r) (by simpa using hb) (rows5 l) (fun p r hr=>by
   obtain⟨t,ht,rfl⟩:=q_kx.1 hr;simp only[Agp];exact ih t ht (hl t ht) _)
  rw[Aif,q_g,Aie (g:=fun p t=>Ek t (ofN k p)) (fun p t _=>by rw[Agp]),<-Na,<-Bo] at h;exact h
def g9(t:Tm)(ht:TOk t):Con 23 [.agg true (tv t)] (.bool (Ek t 2)):=by
 refine Cq mixed Tryz.func23 tr23 ?_;have hc:=i8 t ht 2;cases t with
 |mk k i j n l=>
 rw[Bo] at hc |-;simp only[go_sem,seval];refine Aj hc ?_;simp only[go_sem,seval]
def j1(t:Tm)(ht:TOk t):Con 64 [.agg true (tv t)] (.bool (Ek t 0)):=by
 refine Cq mixed Tryz.func64 tr64 ?_;have hc:=i8 t ht 0;cases t with
 |mk k i j n l=>
 rw[Bo] at hc |-;simp only[go_sem,seval];refine Aj hc ?_;simp only[go_sem,seval]
open Go Go.RowKit Go.Proofs.YtgfehkhcmnfpaaaGreatDoor
def Zg{k i j n:Int}{l:List Tm}(h:TOk (.mk k i j n l)):fit k/\fit i/\fit j/\fit n/\l.length*56<=140737488355328/\∀t∈l,TOk t:=by
 cases h with
 |mk _ _ _ _ _ f1 f2 f3 f4 hb hl=>exact⟨f1,f2,f3,f4,hb,hl⟩
open Classical in
noncomputable def eqT (a b:Tm):Bool:=decide (a=b)
def l4(a:Tm):eqT a a=true:=by unfold eqT;simp
def Adh{a b:Tm}(h:a≠b):eqT a b=false:=by unfold eqT;simp[h]
def eqT_iff{a b:Tm}:eqT a b=true↔a=b:=by unfold eqT;simp
def Aki(k i j n k' i' j' n':Int)(rows rows':GV)(E:Nat->Bool)(h5:∀r∈rows,r.length=5)(Ov:∀r∈rows',r.length=5)(h2:rows.length*56<=140737488355328)
  (H:∀x,x<rows.length->x<rows'.length->Con 22 [.agg true (rows[x]?.getD []),.agg true (rows'[x]?.getD [])] (.bool (E x))) (r0:Bool)
  (hn:¬(k=k'/\i=i'/\j=j'/\n=n'/\rows.length=rows'.length)->r0=false)
  (hf:k=k'->i=i'->j=j'->n=n'->rows.length=rows'.length->∀x,x<rows.length->E x=false->r0=false)
  (ht:k=k'->i=i'->j=j'->n=n'->rows.length=rows'.length->(∀x,x<rows.length->E x=true)->r0=true) :
  Con 22 [.agg true [.int .i64 k,.int .i64 i,.int .i64 j,.int .i64 n,.dsl 5 rows],.agg true [.int .i64 k',.int .i64 i',.int .i64 j',.int .i64 n',.dsl 5 rows']] (.bool r0):=by
 refine Cq mixed Tryz.func22 tr22 ?_
 by_cases a1:k=k'
 rotate_left
 ·have q:(k != k')=true:=by simp[a1]
  rw[hn (fun h=>a1 h.1)];simp only[go_sem,seval,q]
 have q1:(k != k')=false:=by simp[a1]
 by_cases a2:i=i'
 rotate_left
 ·have q:(i != i')=true:=by simp[a2]
  rw[hn (fun h=>a2 h.2.1)];simp only[go_sem,seval,q1,q]
 have q2:(i != i')=false:=by simp[a2]
 by_cases a3:j=j'
 rotate_left
 ·have q:(j != j')=true:=by simp[a3]
  rw[hn (fun h=>a3 h.2.2.1)];simp only[go_sem,seval,q1,q2,q]
 have q3:(j != j')=false:=by simp[a3]
 by_cases a4:n=n'
 rotate_left
 ·have q:(n != n')=true:=by simp[a4]
  rw[hn (fun h=>a4 h.2.2.2.1)];simp only[go_sem,seval,q1,q2,q3,q]
 have q4:(n != n')=false:=by simp[a4]
 by_cases a5:rows.length=rows'.length
 rotate_left
 ·have q:((rows.length:Int) != (rows'.length:Int))=true:=by simp;omega
  rw[hn (fun h=>a5 h.2.2.2.2)];simp only[go_sem,seval,q1,q2,q3,q4,q]
  try intros
 have q5:((rows.length:Int) != (rows'.length:Int))=false:=by simp;omega
 simp only[go_sem,seval,q1,q2,q3,q4,q5];intros;refine Ab0 (fun x=>⟨(.J::.J::.ref 0 0 0 0::.ref 1 0 0 0::.bool false::Gd (jk4 (jk2 (.int .i64 rows.length::.int .i64 x::jk8 (jk4 (jk2 (.J::[]))))))),[⟨true,5,[[.int .i64 k,.int .i64 i,.int .i64 j,.int .i64 n,.dsl 5 rows]],0,0,true⟩,⟨true,5,[[.int .i64 k',.int .i64 i',.int .i64 j',.int .i64 n',.dsl 5 rows']],0,0,true⟩]⟩) rows.length (fun x=>E x=true) (fun x hx hp=>?_) ?_
 ·simp only[go_sem,seval];refine⟨fun h=>?_,fun h=>?_⟩
  ·have Az:=q_ks h;have Hh:x<rows.length:=by omega
   have Ae0:x<rows'.length:=by omega
   have hltz:(x:Int)<(rows'.length:Int):=by omega
   have e0:(0:Int)<=(x:Int):=by omega
   have g1:=h5 _ (Sd (d:=[]) Hh);have g2:=Ov _ (Sd (d:=[]) Ae0);simp only[go_sem,seval,Az,hltz,e0,g1,g2];refine Aj (H x Hh Ae0) ?_;cases hE:E x<;>simp only[go_sem,seval]
   ·rw[hf a1 a2 a3 a4 a5 x Hh hE]
   ·refine⟨Hh,?_⟩;rw[w64 (n:=(x:Int)+1) (by unfold fit;omega)];exact Cw (by simp[Ci])
  ·have Jc:=q_kt h;have Vv:x=rows.length:=by omega
   simp only[go_sem,seval,h];rw[ht a1 a2 a3 a4 a5 (fun y hy=>hp y (by omega))]
 ·exact Cw (by simp[Ci])
def Akg(a:Tm):TOk a->∀b,TOk b->Con 22 [.agg true (tv a),.agg true (tv b)] (.bool (eqT a b)):=by
 induction a using Tm.ind with
 |h k i j n l ih=>
  intro hok b hb;cases b with
  |mk k' i' j' n' l'=>
  obtain⟨_,_,_,_,hbl,hl⟩:=Zg hok;obtain⟨_,_,_,_,hbl',hl'⟩:=Zg hb;have e1:(l.map tv).length=l.length:=by simp
  have e2:(l'.map tv).length=l'.length:=by simp
  rw[Bo,Bo];refine Aki k i j n k' i' j' n' (l.map tv) (l'.map tv) (fun x=>eqT (l[x]?.getD default) (l'[x]?.getD default)) (rows5 l) (rows5 l') (by omega) (fun x hx Cr=>?_) _ (fun h=>Adh (fun h'=>h ?_)) (fun a1 a2 a3 a4 a5 x hx hE=>Adh (fun h'=>?_)) (fun a1 a2 a3 a4 a5 hE=>?_)
  ·rw[e1] at hx;rw[e2] at Cr;rw[q_ji,q_ji,q_f hx,q_f Cr];exact ih _ (q_kd hx) (hl _ (q_kd hx)) _ (hl' _ (q_kd Cr))
  ·cases h';exact⟨rfl,rfl,rfl,rfl,rfl⟩
  ·cases h';rw[l4] at hE;cases hE
  ·subst a1 a2 a3 a4;rw[e1,e2] at a5;rw[e1] at hE;have:l=l':=List.ext_getElem a5 (fun x hx Cr=>by
    have:=eqT_iff.1 (hE x hx);rw[q_f hx,q_f Cr] at this;exact this)
   rw[this];exact l4 _
def Amb(kd:Nat)(op:BinOp)(i c j d:Nat):Fb kd op (.gp i c) (.gp j d)=if kd=2 then eqB op (i==j && c==d) else none:=q_z
attribute [go_sem] Amb
def Aq6(cap:Array Value)(w:World):(invoke (.fn (.func 204) cap) #[]).run Tryz.prog w=.ok (.enter 204 cap) w:=by
 simp[go_sem]
def Aq1(cap:Array Value)(w:World):(invoke (.fn (.func 142) cap) #[]).run Tryz.prog w=.ok (.enter 142 cap) w:=by
 simp[go_sem]
def Ahb{G:GV}{m j a b:Nat}{t:Tm}{wx ux wy uy:Option Vl}{steps most seen guess:Int}(hG:G[m]?=some (Dp steps most seen guess j))(hf:fit guess)(hg:guess≠1)(Ye:0<=seen)(hs:seen<8000000)(Un:a≠b)
  (hx:(G.set m (Dp steps most (seen+1) (Np guess) j))[a]?=some (thR ⟨t,[],false,wx,ux⟩)) (hy:(G.set m (Dp steps most (seen+1) (Np guess) j))[b]?=some (thR ⟨t,[],false,wy,uy⟩)) (ht:TOk t) {deep:Int} {eta:Bool} :
  Cp 205 G [.gp m 0,.gp a 0,.gp b 0,.int .i64 deep,.bool eta] (.ret (.bool true)) (G.set m (Dp steps most (seen+1) (Np guess) j)):=by
 refine Ca mixed Tryz.func205 tr205 ?_;simp only[go_sem,seval];refine Ad (Aqf hG hf hg Ye hs) ?_;have hab':(a==b)=false:=by simpa using Un
 have hc:=Akg t ht t ht;rw[l4] at hc;simp only[go_sem,seval,hx,hy,hab',Oo];refine Aj hc ?_;simp only[go_sem,seval]
def Aqe{G G':GV}{m j a b:Nat}{steps most seen guess most':Int}{deep:Int}{r:Bool}(hG:G[m]?=some (Dp steps most seen guess j))(h:Cp 205 (G.set m (Dp 0 most' 0 guess j)) [.gp m 0,.gp a 0,.gp b 0,.int .i64 deep,.bool true] (.ret (.bool r)) G') :
  Cp 174 G [.gp m 0,.gp a 0,.gp b 0,.int .i64 deep,.int .i64 most'] (.ret (.tup [.bool r,.bool true])) G':=by
 refine Aqo mixed Tryz.func174 tr174 Aq6 Nrm.idle_quick ?_;simp only[go_sem,seval];refine Ad (Aeg hG most') ?_;simp only[go_sem,seval];refine Ad h ?_;simp only[go_sem,seval]
def Aee{G G':GV}{m j a b:Nat}{steps most seen guess:Int}{deep:Int}{r:Bool}(hG:G[m]?=some (Dp steps most seen guess j))(h:Cp 205 (G.set m (Dp 0 9 0 guess j)) [.gp m 0,.gp a 0,.gp b 0,.int .i64 deep,.bool true] (.ret (.bool r)) G') :
  Cp 145 G [.gp m 0,.gp a 0,.gp b 0,.int .i64 deep,.int .i64 9] (.ret (.bool r)) G':=by
 refine Ca mixed Tryz.func145 tr145 ?_;simp only[go_sem,seval];refine Ad (Aqe hG h) ?_;simp only[go_sem,seval]
def Ac8{f:Nat}{args:List SV}{v:Value}{r:SV}(hr:∀m,Rep m v r)(h:∀(m:Mem) (w:World) (vs:List Value),vs.length=args.length->(∀(j:Nat) v x,vs[j]?=some v->args[j]?=some x->Rep m v x)->Calls Tryz.prog f vs.toArray w fun e w'=>e=.returned v/\w'=w):Con f args r:=by
 intro m w vs h1 h2 h3;refine Calls.mono (h m w vs h2 h3) (fun e w' he=>?_);obtain⟨rfl,rfl⟩:=he;exact⟨_,m,rfl,hr m,⟨.refl m,rfl⟩,fun _ _ _=>rfl,h1,rfl,rfl,rfl,q_ja _,fun _ _=>rfl⟩
def Ac1:Con 143 [.float .f64 4621256167635550208] (.int .i64 9):=by
 refine Ac8 (v:=.int .i64 9) (fun m=>.int _ _) (fun m w vs h2 h3=>?_)
 match vs,h2 with
 |[v],_=>
  have hv:=h3 0 v _ rfl rfl;cases hv;exact Nrm.limit_9 w
def Ala:Con 137 [.bool true] (.tup []):=by
 refine Ac8 (v:=.tuple #[]) (fun m=>.tup [] [] rfl (fun j v x h=>by simp at h)) (fun m w vs h2 h3=>?_)
 match vs,h2 with
 |[v],_=>
  have hv:=h3 0 v _ rfl rfl;cases hv;exact Nrm.so_true w
def Asz(a b:Tm)(f:Nat):∀x∈[SV.agg true (tv a),.agg true (tv b),.float .f64 f],NoG x:=by
 intro x hx;simp only[q_kb,q_kc,or_false] at hx;rcases hx with rfl|rfl|rfl
 ·exact Od a true
 ·exact Od b true
 ·exact .float _ _
def Asv(b:Bool)(n:Int):NoG (.tup [.bool b,.int .i64 n]):=by
 refine .tup _ (fun x hx=>?_);simp only[q_kb,q_kc,or_false] at hx;rcases hx with rfl|rfl
 ·exact .bool _
 ·exact .int _ _
def Alm(t:Tm)(ht:TOk t)(hp:Ek t 2=true):Con 107 [.agg true (tv t),.agg true (tv t),.float .f64 4621256167635550208] (.tup [.bool true,.int .i64 0]):=by
 refine Tz mixed Tryz.func107 tr107 Aq1 Nrm.idle_conv (Asz t t _) (Asv _ _) ?_;have hc:=g9 t ht;rw[hp] at hc;have hn:=Aef [] 9;have hl:=Ut [[.undef],Dp 0 9 0 0 0] t [];have hl2:=Ut [[.undef],Dp 0 9 0 0 0,thR ⟨t,[],false,none,none⟩] t [];have hs:=Aee (G:=[[.undef],Dp 0 9 0 0 0,thR ⟨t,[],false,none,none⟩,thR ⟨t,[],false,none,none⟩]) (m:=1) (j:=0) (a:=2) (b:=3) (deep:=0) (steps:=0) (most:=9) (seen:=0) (guess:=0) rfl
  (Ahb (m:=1) (j:=0) (steps:=0) (most:=9) (seen:=0) (guess:=0) (wx:=none) (ux:=none) (wy:=none) (uy:=none) (t:=t) rfl (by unfold fit;omega) (by omega) (by omega) (by omega) (by omega) rfl rfl ht)
 have h5:=Cg t;generalize thR ⟨t,[],false,none,none⟩=ta at *
 generalize tv t=r1 at *
 simp only[go_sem,seval,h5];refine Aj hc ?_;simp only[go_sem,seval,h5];refine Aj hc ?_;simp only[go_sem,seval,h5];refine Aj Ac1 ?_;simp only[go_sem,seval,h5];refine Ad hn ?_;simp only[go_sem,seval,h5];refine Ad hl ?_;simp only[go_sem,seval,h5];refine Ad hl2 ?_;simp only[go_sem,seval,h5];refine Ad hs ?_;simp only[go_sem,seval]
end Go.Proofs.YtgfehkhcmnfpaaaGreatDoor.Abs
namespace Go.Proofs
open Go.Shelf
def Tryz.sbRen:Go.Shelf.Ren:=⟨fun|166=>29|167=>31|169=>34|240=>62|276=>95|n=>n,fun|0=>0|3=>3|4=>4|5=>5|9=>9|20=>20|37=>51|70=>50|72=>53|75=>55|80=>63|127=>91|164=>114|n=>n,fun n=>n⟩
def Tryz.sb166:Lays.n166 Tryz.prog Tryz.sbRen:={
 mixed:=by kernel_rfl
 f166:=Tryz.func29.trans (congrArg some (by kernel_rfl))
 f240:=Tryz.func62.trans (congrArg some (by kernel_rfl))
 f276:=Tryz.func95.trans (congrArg some (by kernel_rfl))
 t0:=Tryz.underlying0
 a0:=Tryz.isAgg0
 z0:=Tryz.sizeOf0
 v0:=Tryz.zeroValue0
 t3:=Tryz.underlying3
 a3:=Tryz.isAgg3
 z3:=Tryz.sizeOf3
 v3:=Tryz.zeroValue3
 t4:=Tryz.underlying4
 a4:=Tryz.isAgg4
 z4:=Tryz.sizeOf4
 v4:=Tryz.zeroValue4
 t9:=Tryz.underlying9
 a9:=Tryz.isAgg9
 z9:=Tryz.sizeOf9
 v9:=Tryz.zeroValue9
 t20:=Tryz.underlying20
 a20:=Tryz.isAgg20
 z20:=Tryz.sizeOf20
 v20:=Tryz.zeroValue20
 t37:=Tryz.underlying51
 a37:=Tryz.isAgg51
 z37:=Tryz.sizeOf51
 v37:=Tryz.zeroValue51
 t70:=Tryz.underlying50
 a70:=Tryz.isAgg50
 z70:=Tryz.sizeOf50
 v70:=Tryz.zeroValue50
 t72:=Tryz.underlying53
 a72:=Tryz.isAgg53
 z72:=Tryz.sizeOf53
 v72:=Tryz.zeroValue53
 t75:=Tryz.underlying55
 a75:=Tryz.isAgg55
 z75:=Tryz.sizeOf55
 v75:=Tryz.zeroValue55
 t164:=Tryz.underlying114
 a164:=Tryz.isAgg114
 z164:=Tryz.sizeOf114
 v164:=Tryz.zeroValue114
}
def Tryz.sb167:Lays.n167 Tryz.prog Tryz.sbRen:={
 mixed:=by kernel_rfl
 f167:=Tryz.func31.trans (congrArg some (by kernel_rfl))
 f240:=Tryz.func62.trans (congrArg some (by kernel_rfl))
 f276:=Tryz.func95.trans (congrArg some (by kernel_rfl))
 t0:=Tryz.underlying0
 a0:=Tryz.isAgg0
 z0:=Tryz.sizeOf0
 v0:=Tryz.zeroValue0
 t4:=Tryz.underlying4
 a4:=Tryz.isAgg4
 z4:=Tryz.sizeOf4
 v4:=Tryz.zeroValue4
 t5:=Tryz.underlying5
 a5:=Tryz.isAgg5
 z5:=Tryz.sizeOf5
 v5:=Tryz.zeroValue5
 t9:=Tryz.underlying9
 a9:=Tryz.isAgg9
 z9:=Tryz.sizeOf9
 v9:=Tryz.zeroValue9
 t20:=Tryz.underlying20
 a20:=Tryz.isAgg20
 z20:=Tryz.sizeOf20
 v20:=Tryz.zeroValue20
 t37:=Tryz.underlying51
 a37:=Tryz.isAgg51
 z37:=Tryz.sizeOf51
 v37:=Tryz.zeroValue51
 t70:=Tryz.underlying50
 a70:=Tryz.isAgg50
 z70:=Tryz.sizeOf50
 v70:=Tryz.zeroValue50
 t72:=Tryz.underlying53
 a72:=Tryz.isAgg53
 z72:=Tryz.sizeOf53
 v72:=Tryz.zeroValue53
 t75:=Tryz.underlying55
 a75:=Tryz.isAgg55
 z75:=Tryz.sizeOf55
 v75:=Tryz.zeroValue55
 t164:=Tryz.underlying114
 a164:=Tryz.isAgg114
 z164:=Tryz.sizeOf114
 v164:=Tryz.zeroValue114
}
def Tryz.sb169:Lays.n169 Tryz.prog Tryz.sbRen:={
 mixed:=by kernel_rfl
 f169:=Tryz.func34.trans (congrArg some (by kernel_rfl))
 t0:=Tryz.underlying0
 a0:=Tryz.isAgg0
 z0:=Tryz.sizeOf0
 v0:=Tryz.zeroValue0
 t3:=Tryz.underlying3
 a3:=Tryz.isAgg3
 z3:=Tryz.sizeOf3
 v3:=Tryz.zeroValue3
 t9:=Tryz.underlying9
 a9:=Tryz.isAgg9
 z9:=Tryz.sizeOf9
 v9:=Tryz.zeroValue9
 t37:=Tryz.underlying51
 a37:=Tryz.isAgg51
 z37:=Tryz.sizeOf51
 v37:=Tryz.zeroValue51
 t70:=Tryz.underlying50
 a70:=Tryz.isAgg50
 z70:=Tryz.sizeOf50
 v70:=Tryz.zeroValue50
 t72:=Tryz.underlying53
 a72:=Tryz.isAgg53
 z72:=Tryz.sizeOf53
 v72:=Tryz.zeroValue53
 t127:=Tryz.underlying91
 a127:=Tryz.isAgg91
 z127:=Tryz.sizeOf91
 v127:=Tryz.zeroValue91
}
def Tryz.sbX:Builder.Extra Tryz.prog Tryz.sbRen:={
 sizeBuilder:=by kernel_rfl
 liesBuilder:=by kernel_rfl
 t5:=Tryz.underlying5
 a5:=Tryz.isAgg5
 z5:=Tryz.sizeOf5
 v5:=Tryz.zeroValue5
 infoByte:=by kernel_rfl
 cellsByte:=by kernel_rfl
 sizeByte:=by kernel_rfl
 neB5:=by decide
}
end Go.Proofs
namespace Go.Proofs.YtgfehkhcmnfpaaaGreatDoor.Abs
open Go Go.Proofs Go.Proofs.YtgfehkhcmnfpaaaGreatDoor
def af98:AF:=⟨32,[(.t 2),(.t 3)],(Ab [oP 1 (.box (.t 0)),oP 2 (.mv (Be [])),oP 3 (.mv (cI 0))] (.seq (Ab [oP 4 (Ac 0 1),oP 5 (Af 4)] (.blk 0 (Ab [oP 7 (As 5 1),Aa 6 7] (Ag 6 (Ab [oP 2 (.mv (Be [115,111,114,116])),oP 3 (.mv (cI 1))] .ret) (Ab [oP 9 (As 5 3),Aa 8 9] (Ag 8 (Ab [oP 2 (.mv (Be [112,105])),oP 3 (.mv (cI 2))] .ret) (Ab [oP 11 (As 5 4),Aa 10 11] (Ag 10 (Ab [oP 2 (.mv (Be [108,97,109])),oP 3 (.mv (cI 2))] .ret) (Ab [oP 13 (As 5 5),Aa 12 13] (Ag 12 (Ab [oP 2 (.mv (Be [97,112,112])),oP 3 (.mv (cI 2))] .ret) (Ab [oP 15 (As 5 6),Aa 14 15] (Ag 14 (Ab [oP 2 (.mv (Be [115,105,103])),oP 3 (.mv (cI 2))] .ret) (Ab [oP 17 (As 5 7),Aa 16 17] (Ag 16 (Ab [oP 2 (.mv (Be [112,97,105,114])),oP 3 (.mv (cI 2))] .ret) (Ab [oP 19 (As 5 8),Aa 18 19] (Ag 18 (Ab [oP 2 (.mv (Be [102,115,116])),oP 3 (.mv (cI 2))] .ret) (Ab [oP 21 (As 5 9),Aa 20 21] (Ag 20 (Ab [oP 2 (.mv (Be [115,110,100])),oP 3 (.mv (cI 2))] .ret) (Ab [oP 23 (As 5 10),Aa 22 23] (Ag 22 (Ab [oP 2 (.mv (Be [101,113])),oP 3 (.mv (cI 1))] .ret) (Ab [oP 25 (As 5 11),Aa 24 25] (Ag 24 (Ab [oP 2 (.mv (Be [114,101,102,108])),oP 3 (.mv (cI 1))] .ret) (Ab [oP 27 (As 5 12),Aa 26 27] (Ag 26 (Ab [oP 2 (.mv (Be [116,114])),oP 3 (.mv (cI 1))] .ret) .skip)))))))))))))))))))))))) (Ab [oP 28 (Am 5 1),oP 29 (.call 134 [(.t 28)]),oP 30 (.ext (.t 29) 0),oP 31 (.ext (.t 29) 1),Aa 2 30,Aa 3 31] .ret)))⟩
def tr98:trF Tryz.prog Tryz.f98=some af98:=by kernel_rfl
attribute [go_sem] af98
open Go Go.RowKit
abbrev By:=List UInt8
structure Tok where
 k:Nat
 w:By
 p:Nat
 deriving Inhabited
def Gp(t:Tok):List SV:=[.int .i64 t.k,.str (bs t.w),.int .i64 t.p]
def Lh(n:Nat):Bool:=(decide (97<=n) && decide (n<=122)) || (decide (65<=n) && decide (n<=90))
def Hz(n:Nat):Bool:=decide (48<=n) && decide (n<=57)
def Zn(c:UInt8):Bool:=Lh c.toNat || Hz c.toNat
def Fy(w:By):List By->Option Nat
 |[]=>none
 |n::l=>if n==w then some 0 else (Fy w l).map (·+1)
def symsL:List By:=[[117,105,112],[102,117,110,101,120,116],[115,121,109],[116,114,97,110,115],[116,114],[104,101,116],[116,121,112],[116,114,104],[104,112],[104,50,101],[101,50,104],[114,112],[99,112,105],[99,115,105,103],[99,108,97,109],[99,97,112,112],[99,112,97,105,114],[99,102,115,116],[99,115,110,100],[99,101,113],[99,114,101,102,108]]
def arN(n:Nat):Nat:=[5,5,4,6,4,4,5,4,5,4,4,6,6,6,9,12,12,9,9,9,6].getD (n-1) 0
def Jw(w:By):List (By×Nat×By)->Option (Nat×By)
 |[]=>none
 |(v,k,s)::l=>if v==w then some (k,s) else Jw w l
end Go.Proofs.YtgfehkhcmnfpaaaGreatDoor.Abs
