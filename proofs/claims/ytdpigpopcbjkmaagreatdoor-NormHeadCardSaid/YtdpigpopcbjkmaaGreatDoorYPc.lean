import Derived.Test.YtdpigpopcbjkmaaGreatDoorYTd
import Derived.Test.YtdpigpopcbjkmaaGreatDoorYAfC
import Derived.Test.YtdpigpopcbjkmaaGreatDoorYTm
import Derived.Test.YtdpigpopcbjkmaaGreatDoorProg
import Derived.KernelRfl
import Derived.Test.YtdpigpopcbjkmaaGreatDoorYTs
set_option linter.unusedSimpArgs false
set_option linter.unusedVariables false
set_option maxRecDepth 20000
set_option maxHeartbeats 4000000
namespace Go.Proofs.YtdpigpopcbjkmaaGreatDoor.Abs
open Go Go.RowKit Go.Proofs.YtdpigpopcbjkmaaGreatDoor
theorem At8:Con 151 [.str (bs [115,111,114,116])] (.tup [.int .i64 1,.str (bs [76])]):=by
 refine Al mixed Tryz.func151 tr151 ?_;simp only[go_sem,seval,(show (([115,111,114,116]:By)==[115,111,114,116])=true by decide)]
theorem Auw:Con 155 [.str (bs [80,105])] (.tup [.int .i64 13,.str (bs [120,116,98])]):=by
 refine Al mixed Tryz.func155 tr155 ?_;simp only[go_sem,seval,(show (([80,105]:By)==[80,105])=true by decide)]
theorem At4:Con 151 [.str (bs [80,105])] (.tup [.int .i64 13,.str (bs [120,116,98])]):=by
 refine Al mixed Tryz.func151 tr151 ?_;simp only[go_sem,seval,(show (([80,105]:By)==[115,111,114,116])=false by decide),(show (([80,105]:By)==[112,105])=false by decide),(show (([80,105]:By)==[108,97,109])=false by decide),(show (([80,105]:By)==[97,112,112])=false by decide),(show (([80,105]:By)==[115,105,103])=false by decide),(show (([80,105]:By)==[112,97,105,114])=false by decide),(show (([80,105]:By)==[102,115,116])=false by decide),(show (([80,105]:By)==[115,110,100])=false by decide),(show (([80,105]:By)==[101,113])=false by decide),(show (([80,105]:By)==[114,101,102,108])=false by decide),(show (([80,105]:By)==[116,114])=false by decide)];refine Aa Auw ?_;simp only[go_sem,seval]
theorem Auu:Con 155 [.str (bs [76,97,109])] (.tup [.int .i64 14,.str (bs [120,116,98])]):=by
 refine Al mixed Tryz.func155 tr155 ?_;simp only[go_sem,seval,(show (([76,97,109]:By)==[80,105])=false by decide),(show (([76,97,109]:By)==[76,97,109])=true by decide)]
theorem At2:Con 151 [.str (bs [76,97,109])] (.tup [.int .i64 14,.str (bs [120,116,98])]):=by
 refine Al mixed Tryz.func151 tr151 ?_;simp only[go_sem,seval,(show (([76,97,109]:By)==[115,111,114,116])=false by decide),(show (([76,97,109]:By)==[112,105])=false by decide),(show (([76,97,109]:By)==[108,97,109])=false by decide),(show (([76,97,109]:By)==[97,112,112])=false by decide),(show (([76,97,109]:By)==[115,105,103])=false by decide),(show (([76,97,109]:By)==[112,97,105,114])=false by decide),(show (([76,97,109]:By)==[102,115,116])=false by decide),(show (([76,97,109]:By)==[115,110,100])=false by decide),(show (([76,97,109]:By)==[101,113])=false by decide),(show (([76,97,109]:By)==[114,101,102,108])=false by decide),(show (([76,97,109]:By)==[116,114])=false by decide)];refine Aa Auu ?_;simp only[go_sem,seval]
theorem Auq:Con 155 [.str (bs [65,112,112])] (.tup [.int .i64 15,.str (bs [116,116])]):=by
 refine Al mixed Tryz.func155 tr155 ?_;simp only[go_sem,seval,(show (([65,112,112]:By)==[80,105])=false by decide),(show (([65,112,112]:By)==[76,97,109])=false by decide),(show (([65,112,112]:By)==[65,112,112])=true by decide)]
theorem Aty:Con 151 [.str (bs [65,112,112])] (.tup [.int .i64 15,.str (bs [116,116])]):=by
 refine Al mixed Tryz.func151 tr151 ?_;simp only[go_sem,seval,(show (([65,112,112]:By)==[115,111,114,116])=false by decide),(show (([65,112,112]:By)==[112,105])=false by decide),(show (([65,112,112]:By)==[108,97,109])=false by decide),(show (([65,112,112]:By)==[97,112,112])=false by decide),(show (([65,112,112]:By)==[115,105,103])=false by decide),(show (([65,112,112]:By)==[112,97,105,114])=false by decide),(show (([65,112,112]:By)==[102,115,116])=false by decide),(show (([65,112,112]:By)==[115,110,100])=false by decide),(show (([65,112,112]:By)==[101,113])=false by decide),(show (([65,112,112]:By)==[114,101,102,108])=false by decide),(show (([65,112,112]:By)==[116,114])=false by decide)];refine Aa Auq ?_;simp only[go_sem,seval]
theorem Auy:Con 155 [.str (bs [83,105,103])] (.tup [.int .i64 16,.str (bs [120,116,98])]):=by
 refine Al mixed Tryz.func155 tr155 ?_;simp only[go_sem,seval,(show (([83,105,103]:By)==[80,105])=false by decide),(show (([83,105,103]:By)==[76,97,109])=false by decide),(show (([83,105,103]:By)==[65,112,112])=false by decide),(show (([83,105,103]:By)==[83,105,103])=true by decide)]
theorem At6:Con 151 [.str (bs [83,105,103])] (.tup [.int .i64 16,.str (bs [120,116,98])]):=by
 refine Al mixed Tryz.func151 tr151 ?_;simp only[go_sem,seval,(show (([83,105,103]:By)==[115,111,114,116])=false by decide),(show (([83,105,103]:By)==[112,105])=false by decide),(show (([83,105,103]:By)==[108,97,109])=false by decide),(show (([83,105,103]:By)==[97,112,112])=false by decide),(show (([83,105,103]:By)==[115,105,103])=false by decide),(show (([83,105,103]:By)==[112,97,105,114])=false by decide),(show (([83,105,103]:By)==[102,115,116])=false by decide),(show (([83,105,103]:By)==[115,110,100])=false by decide),(show (([83,105,103]:By)==[101,113])=false by decide),(show (([83,105,103]:By)==[114,101,102,108])=false by decide),(show (([83,105,103]:By)==[116,114])=false by decide)];refine Aa Auy ?_;simp only[go_sem,seval]
theorem Auv:Con 155 [.str (bs [80,97,105,114])] (.tup [.int .i64 17,.str (bs [120,116,98,116,116])]):=by
 refine Al mixed Tryz.func155 tr155 ?_;simp only[go_sem,seval,(show (([80,97,105,114]:By)==[80,105])=false by decide),(show (([80,97,105,114]:By)==[76,97,109])=false by decide),(show (([80,97,105,114]:By)==[65,112,112])=false by decide),(show (([80,97,105,114]:By)==[83,105,103])=false by decide),(show (([80,97,105,114]:By)==[80,97,105,114])=true by decide)]
theorem At3:Con 151 [.str (bs [80,97,105,114])] (.tup [.int .i64 17,.str (bs [120,116,98,116,116])]):=by
 refine Al mixed Tryz.func151 tr151 ?_;simp only[go_sem,seval,(show (([80,97,105,114]:By)==[115,111,114,116])=false by decide),(show (([80,97,105,114]:By)==[112,105])=false by decide),(show (([80,97,105,114]:By)==[108,97,109])=false by decide),(show (([80,97,105,114]:By)==[97,112,112])=false by decide),(show (([80,97,105,114]:By)==[115,105,103])=false by decide),(show (([80,97,105,114]:By)==[112,97,105,114])=false by decide),(show (([80,97,105,114]:By)==[102,115,116])=false by decide),(show (([80,97,105,114]:By)==[115,110,100])=false by decide),(show (([80,97,105,114]:By)==[101,113])=false by decide),(show (([80,97,105,114]:By)==[114,101,102,108])=false by decide),(show (([80,97,105,114]:By)==[116,114])=false by decide)];refine Aa Auv ?_;simp only[go_sem,seval]
theorem Aus:Con 155 [.str (bs [70,115,116])] (.tup [.int .i64 18,.str (bs [116])]):=by
 refine Al mixed Tryz.func155 tr155 ?_;simp only[go_sem,seval,(show (([70,115,116]:By)==[80,105])=false by decide),(show (([70,115,116]:By)==[76,97,109])=false by decide),(show (([70,115,116]:By)==[65,112,112])=false by decide),(show (([70,115,116]:By)==[83,105,103])=false by decide),(show (([70,115,116]:By)==[80,97,105,114])=false by decide),(show (([70,115,116]:By)==[70,115,116])=true by decide)]
theorem At0:Con 151 [.str (bs [70,115,116])] (.tup [.int .i64 18,.str (bs [116])]):=by
 refine Al mixed Tryz.func151 tr151 ?_;simp only[go_sem,seval,(show (([70,115,116]:By)==[115,111,114,116])=false by decide),(show (([70,115,116]:By)==[112,105])=false by decide),(show (([70,115,116]:By)==[108,97,109])=false by decide),(show (([70,115,116]:By)==[97,112,112])=false by decide),(show (([70,115,116]:By)==[115,105,103])=false by decide),(show (([70,115,116]:By)==[112,97,105,114])=false by decide),(show (([70,115,116]:By)==[102,115,116])=false by decide),(show (([70,115,116]:By)==[115,110,100])=false by decide),(show (([70,115,116]:By)==[101,113])=false by decide),(show (([70,115,116]:By)==[114,101,102,108])=false by decide),(show (([70,115,116]:By)==[116,114])=false by decide)];refine Aa Aus ?_;simp only[go_sem,seval]
theorem Auz:Con 155 [.str (bs [83,110,100])] (.tup [.int .i64 19,.str (bs [116])]):=by
 refine Al mixed Tryz.func155 tr155 ?_;simp only[go_sem,seval,(show (([83,110,100]:By)==[80,105])=false by decide),(show (([83,110,100]:By)==[76,97,109])=false by decide),(show (([83,110,100]:By)==[65,112,112])=false by decide),(show (([83,110,100]:By)==[83,105,103])=false by decide),(show (([83,110,100]:By)==[80,97,105,114])=false by decide),(show (([83,110,100]:By)==[70,115,116])=false by decide),(show (([83,110,100]:By)==[83,110,100])=true by decide)]
theorem At7:Con 151 [.str (bs [83,110,100])] (.tup [.int .i64 19,.str (bs [116])]):=by
 refine Al mixed Tryz.func151 tr151 ?_;simp only[go_sem,seval,(show (([83,110,100]:By)==[115,111,114,116])=false by decide),(show (([83,110,100]:By)==[112,105])=false by decide),(show (([83,110,100]:By)==[108,97,109])=false by decide),(show (([83,110,100]:By)==[97,112,112])=false by decide),(show (([83,110,100]:By)==[115,105,103])=false by decide),(show (([83,110,100]:By)==[112,97,105,114])=false by decide),(show (([83,110,100]:By)==[102,115,116])=false by decide),(show (([83,110,100]:By)==[115,110,100])=false by decide),(show (([83,110,100]:By)==[101,113])=false by decide),(show (([83,110,100]:By)==[114,101,102,108])=false by decide),(show (([83,110,100]:By)==[116,114])=false by decide)];refine Aa Auz ?_;simp only[go_sem,seval]
theorem Aur:Con 155 [.str (bs [69,113])] (.tup [.int .i64 20,.str (bs [116,116,116])]):=by
 refine Al mixed Tryz.func155 tr155 ?_;simp only[go_sem,seval,(show (([69,113]:By)==[80,105])=false by decide),(show (([69,113]:By)==[76,97,109])=false by decide),(show (([69,113]:By)==[65,112,112])=false by decide),(show (([69,113]:By)==[83,105,103])=false by decide),(show (([69,113]:By)==[80,97,105,114])=false by decide),(show (([69,113]:By)==[70,115,116])=false by decide),(show (([69,113]:By)==[83,110,100])=false by decide),(show (([69,113]:By)==[69,113])=true by decide)]
theorem Atz:Con 151 [.str (bs [69,113])] (.tup [.int .i64 20,.str (bs [116,116,116])]):=by
 refine Al mixed Tryz.func151 tr151 ?_;simp only[go_sem,seval,(show (([69,113]:By)==[115,111,114,116])=false by decide),(show (([69,113]:By)==[112,105])=false by decide),(show (([69,113]:By)==[108,97,109])=false by decide),(show (([69,113]:By)==[97,112,112])=false by decide),(show (([69,113]:By)==[115,105,103])=false by decide),(show (([69,113]:By)==[112,97,105,114])=false by decide),(show (([69,113]:By)==[102,115,116])=false by decide),(show (([69,113]:By)==[115,110,100])=false by decide),(show (([69,113]:By)==[101,113])=false by decide),(show (([69,113]:By)==[114,101,102,108])=false by decide),(show (([69,113]:By)==[116,114])=false by decide)];refine Aa Aur ?_;simp only[go_sem,seval]
theorem Aux:Con 155 [.str (bs [82,101,102,108])] (.tup [.int .i64 21,.str (bs [116,116])]):=by
 refine Al mixed Tryz.func155 tr155 ?_;simp only[go_sem,seval,(show (([82,101,102,108]:By)==[80,105])=false by decide),(show (([82,101,102,108]:By)==[76,97,109])=false by decide),(show (([82,101,102,108]:By)==[65,112,112])=false by decide),(show (([82,101,102,108]:By)==[83,105,103])=false by decide),(show (([82,101,102,108]:By)==[80,97,105,114])=false by decide),(show (([82,101,102,108]:By)==[70,115,116])=false by decide),(show (([82,101,102,108]:By)==[83,110,100])=false by decide),(show (([82,101,102,108]:By)==[69,113])=false by decide),(show (([82,101,102,108]:By)==[82,101,102,108])=true by decide)]
theorem At5:Con 151 [.str (bs [82,101,102,108])] (.tup [.int .i64 21,.str (bs [116,116])]):=by
 refine Al mixed Tryz.func151 tr151 ?_;simp only[go_sem,seval,(show (([82,101,102,108]:By)==[115,111,114,116])=false by decide),(show (([82,101,102,108]:By)==[112,105])=false by decide),(show (([82,101,102,108]:By)==[108,97,109])=false by decide),(show (([82,101,102,108]:By)==[97,112,112])=false by decide),(show (([82,101,102,108]:By)==[115,105,103])=false by decide),(show (([82,101,102,108]:By)==[112,97,105,114])=false by decide),(show (([82,101,102,108]:By)==[102,115,116])=false by decide),(show (([82,101,102,108]:By)==[115,110,100])=false by decide),(show (([82,101,102,108]:By)==[101,113])=false by decide),(show (([82,101,102,108]:By)==[114,101,102,108])=false by decide),(show (([82,101,102,108]:By)==[116,114])=false by decide)];refine Aa Aux ?_;simp only[go_sem,seval]
theorem Aut:Con 155 [.str (bs [74])] (.tup [.int .i64 22,.str (bs [116,116,121,101,80,116,116,116])]):=by
 refine Al mixed Tryz.func155 tr155 ?_;simp only[go_sem,seval,(show (([74]:By)==[80,105])=false by decide),(show (([74]:By)==[76,97,109])=false by decide),(show (([74]:By)==[65,112,112])=false by decide),(show (([74]:By)==[83,105,103])=false by decide),(show (([74]:By)==[80,97,105,114])=false by decide),(show (([74]:By)==[70,115,116])=false by decide),(show (([74]:By)==[83,110,100])=false by decide),(show (([74]:By)==[69,113])=false by decide),(show (([74]:By)==[82,101,102,108])=false by decide),(show (([74]:By)==[74])=true by decide)]
theorem At1:Con 151 [.str (bs [74])] (.tup [.int .i64 22,.str (bs [116,116,121,101,80,116,116,116])]):=by
 refine Al mixed Tryz.func151 tr151 ?_;simp only[go_sem,seval,(show (([74]:By)==[115,111,114,116])=false by decide),(show (([74]:By)==[112,105])=false by decide),(show (([74]:By)==[108,97,109])=false by decide),(show (([74]:By)==[97,112,112])=false by decide),(show (([74]:By)==[115,105,103])=false by decide),(show (([74]:By)==[112,97,105,114])=false by decide),(show (([74]:By)==[102,115,116])=false by decide),(show (([74]:By)==[115,110,100])=false by decide),(show (([74]:By)==[101,113])=false by decide),(show (([74]:By)==[114,101,102,108])=false by decide),(show (([74]:By)==[116,114])=false by decide)];refine Aa Aut ?_;simp only[go_sem,seval]
theorem Au0:Con 155 [.str (bs [117,115,101])] (.tup [.int .i64 23,.str (bs [83,76,77])]):=by
 refine Al mixed Tryz.func155 tr155 ?_;simp only[go_sem,seval,(show (([117,115,101]:By)==[80,105])=false by decide),(show (([117,115,101]:By)==[76,97,109])=false by decide),(show (([117,115,101]:By)==[65,112,112])=false by decide),(show (([117,115,101]:By)==[83,105,103])=false by decide),(show (([117,115,101]:By)==[80,97,105,114])=false by decide),(show (([117,115,101]:By)==[70,115,116])=false by decide),(show (([117,115,101]:By)==[83,110,100])=false by decide),(show (([117,115,101]:By)==[69,113])=false by decide),(show (([117,115,101]:By)==[82,101,102,108])=false by decide),(show (([117,115,101]:By)==[74])=false by decide),(show (([117,115,101]:By)==[117,115,101])=true by decide)]
theorem At9:Con 151 [.str (bs [117,115,101])] (.tup [.int .i64 23,.str (bs [83,76,77])]):=by
 refine Al mixed Tryz.func151 tr151 ?_;simp only[go_sem,seval,(show (([117,115,101]:By)==[115,111,114,116])=false by decide),(show (([117,115,101]:By)==[112,105])=false by decide),(show (([117,115,101]:By)==[108,97,109])=false by decide),(show (([117,115,101]:By)==[97,112,112])=false by decide),(show (([117,115,101]:By)==[115,105,103])=false by decide),(show (([117,115,101]:By)==[112,97,105,114])=false by decide),(show (([117,115,101]:By)==[102,115,116])=false by decide),(show (([117,115,101]:By)==[115,110,100])=false by decide),(show (([117,115,101]:By)==[101,113])=false by decide),(show (([117,115,101]:By)==[114,101,102,108])=false by decide),(show (([117,115,101]:By)==[116,114])=false by decide)];refine Aa Au0 ?_;simp only[go_sem,seval]
theorem Ac9{w:By}{k:Nat}{s:By}:∀{l:List (By×Nat×By)},Rg w l=some (k,s)->(w,k,s)∈l:=by
 intro l
 induction l with
 |nil=>intro h;cases h
 |cons a l ih=>
  intro h;obtain⟨v,k',s'⟩:=a;rw[Rg] at h;split at h
  ·rename_i hv;cases h;have:v=w:=by simpa using hv
   subst this;exact List.mem_cons_self
  ·exact List.mem_cons_of_mem _ (ih h)
theorem Atx{w:By}{k:Nat}{s:By}(h:Rg w Rh=some (k,s)):Con 151 [.str (bs w)] (.tup [.int .i64 k,.str (bs s)]):=by
 have:=Ac9 h;simp only[Rh,List.mem_cons,List.not_mem_nil,or_false,Prod.mk.injEq] at this;rcases this with⟨rfl,rfl,rfl⟩|⟨rfl,rfl,rfl⟩|⟨rfl,rfl,rfl⟩|⟨rfl,rfl,rfl⟩|⟨rfl,rfl,rfl⟩|⟨rfl,rfl,rfl⟩|⟨rfl,rfl,rfl⟩|⟨rfl,rfl,rfl⟩|⟨rfl,rfl,rfl⟩|⟨rfl,rfl,rfl⟩|⟨rfl,rfl,rfl⟩|⟨rfl,rfl,rfl⟩
 ·exact At8
 ·exact At4
 ·exact At2
 ·exact Aty
 ·exact At6
 ·exact At3
 ·exact At0
 ·exact At7
 ·exact Atz
 ·exact At5
 ·exact At1
 ·exact At9
theorem Tf{w:By}:∀{l:List By} {n:Nat},Jt w l=some n->l[n]?=some w/\∀m,m<n->∃v,l[m]?=some v/\(v==w)=false:=by
 intro l
 induction l with
 |nil=>intro n h;cases h
 |cons a l ih=>
  intro n h;rw[Jt] at h;split at h
  ·rename_i hv;cases h;have:a=w:=by simpa using hv
   subst this;exact⟨rfl,fun m hm=>by omega⟩
  ·rename_i hv;cases hq:Jt w l with
   |none=>rw[hq] at h;cases h
   |some q=>
    rw[hq,Option.map_some,q_b] at h;subst h;obtain⟨h1,h2⟩:=ih hq;refine⟨by simpa using h1,fun m hm=>?_⟩;cases m with
    |zero=>exact⟨a,rfl,by simpa using hv⟩
    |succ m=>
     obtain⟨v,h3,h4⟩:=h2 m (by omega);exact⟨v,by simpa using h3,h4⟩
def wdR(w:By):List SV:=[.str (bs w)]
theorem Aua:Con 161 [] (.dsl 1 (symsL.map wdR)):=by
 refine Al mixed Tryz.func161 tr161 ?_;simp only[go_sem,seval,symsL,q_h,q_i,wdR]
theorem Av1{w:By}{n:Nat}(h:Jt w symsL=some n):Con 158 [.str (bs w)] (.int .i64 ((n+1:Nat):Int)):=by
 obtain⟨h1,h2⟩:=Tf h;have Ag:symsL.length=21:=rfl;have hn:=(List.getElem?_eq_some_iff.1 h1).1;refine Al mixed Tryz.func158 tr158 ?_;simp only[go_sem,seval];refine Aa Aua ?_;have Bu:∀(m:Nat) v,symsL[m]?=some v->(symsL.map wdR)[m]?.getD []=[.str (bs v)]:=fun m v hv=>by rw[List.getElem?_map,hv];rfl
 generalize symsL=l at *
 simp only[go_sem,seval,q_g,Ag];intros;refine Je (fun x=>⟨(.str (bs w)::.J::.int .i64 0::.J::.J::.dsl 1 (l.map wdR)::.int .i64 21::.int .i64 x::.J::.J::.J::.J::.J::.J::.J::.J::.J::.J::[]),[]⟩) n (fun x hx=>?_) ?_
 ·have e0:(0:Int)<=(x:Int):=by omega
  have e1:(x:Int)<21:=by omega
  have e2:x<21:=by omega
  by_cases Ab:x<n
  ·obtain⟨v,h3,h4⟩:=h2 x Ab;simp only[go_sem,seval,decide_eq_true e1,e0,e1,e2,q_g,Ag,Bu x v h3,h4,w64 (show fit ((x:Int)+1) by unfold fit;omega)];refine⟨Ab,?_⟩;exact Au (by simp[An])
  ·have:x=n:=by omega
   subst this;simp only[go_sem,seval,decide_eq_true e1,e0,e1,e2,q_g,Ag,Bu x w h1,beq_self_eq_true,w64 (show fit ((x:Int)+1) by unfold fit;omega)];rfl
 ·exact Au (by simp[An])
def In(k i j n want:Int)(len:Nat):Bool:=(!(want != 0) || (!(Hz k != 0) || !(Hz k != want))) && (!((len:Int) != Bf k n) && Lq k i j n)
def ofN(k:Int)(i:Nat):Int:=if k=12/\i=2 then 2 else Hz k
theorem Avc(k i j n want:Int)(rows:GV)(W:Nat->List SV->Bool)(h2:rows.length*56<=140737488355328)(h5:∀r∈rows,r.length=5)
  (H:∀p,∀r∈rows,Con 56 [.agg true r,.int .i64 (ofN k p)] (.bool (W p r))) :
  Con 56 [.agg true [.int .i64 k,.int .i64 i,.int .i64 j,.int .i64 n,.dsl 5 rows],.int .i64 want] (.bool (In k i j n want rows.length && Gw W 0 rows)):=by
 refine Al mixed Tryz.func56 tr56 ?_;simp only[go_sem,seval];refine Aa (Av4 k) ?_;simp only[go_sem,seval];unfold In;cases hw:(want != 0)<;>cases hs:(Hz k != 0)<;>cases hd:(Hz k != want)<;>simp only[go_sem,seval,hs,hd]
 all_goals
  refine Aa (Ahr k n) ?_;cases hK:((rows.length:Int) != Bf k n)<;>simp only[go_sem,seval,hK];refine Aa (Auc k i j n rows) ?_;cases hN:Lq k i j n<;>simp only[go_sem,seval,hN];intros;refine So (fun x=>⟨(.J::.J::.ref 0 0 0 0::.J::.J::.int .i64 (Hz k)::.J::.J::.J::.J::.J::.J::.J::.J::.J::.J::.J::.J::.J::.J::.J::.J::.J::.J::.J::.J::.J::.J::.J::.J::.J::.J::.J::.J::.J::.J::.J::.J::.dsl 5 rows::.int .i64 rows.length::.int .i64 x::.J::.J::.J::.J::.J::.J::.J::.J::.J::.J::.J::.J::.J::.J::.J::.J::.J::[]),[⟨true,5,[[.int .i64 k,.int .i64 i,.int .i64 j,.int .i64 n,.dsl 5 rows]],0,0,true⟩]⟩) rows.length (fun x=>W x (rows[x]?.getD [])=true) (fun x hx hp=>?_) ?_
  ·simp only[go_sem,seval,Amb,Ama,Amc];refine⟨fun h=>?_,fun h=>?_⟩
   ·have Ab:=of_decide_eq_true h;have Ch:x<rows.length:=by omega
    have e0:(0:Int)<=(x:Int):=by omega
    have hm:=Ic (d:=[]) Ch;have Dv:=h5 _ hm;have ho:=H x _ hm;have eo:ofN k x=bif (k==12) && ((x:Int)==2) then 2 else Hz k:=by
     unfold ofN
     by_cases a:k=12
     ·by_cases b:x=2
      ·subst b;rw[if_pos ⟨a,rfl⟩,a];rfl
      ·rw[if_neg (fun h=>b h.2),Ah (show (x:Int)≠2 by omega),Bool.and_false];rfl
     ·rw[if_neg (fun h=>a h.1),Ah a,Bool.false_and];rfl
    simp only[go_sem,seval,Ab,e0,Dv];cases Lh:(k==12)<;>cases Ks:((x:Int)==2)<;>simp only[go_sem,seval,Ks]
    all_goals
     simp only[Lh,Ks,Bool.and_true,Bool.and_false,Bool.true_and,Bool.false_and,cond_true,cond_false] at eo;rw[eo] at ho;refine Aa ho ?_;cases hW:W x (rows[x]?.getD [])<;>simp only[go_sem,seval]
     ·rw[Agx (d:=[]) (i:=x) Ch (by rw[Nat.zero_add];exact hW)]
     ·refine⟨Ch,?_⟩;rw[w64 (n:=(x:Int)+1) (by unfold fit;omega)];exact Dq 1 (by simp[An]) (by simp only[List.take_succ_cons,List.take_zero]) (by simp[Ba]) (by simp)
   ·have Fj:=of_decide_eq_false h;have Kt:x=rows.length:=by omega
    simp only[go_sem,seval,h];rw[Agy (d:=[]) (f:=W) (fun j hj=>by rw[Nat.zero_add];exact hp j (by omega))]
  ·exact Au (by simp[An])
theorem A7l{l:List Tm}(ih:∀a∈l,∀b,tv a=tv b->a=b):∀{r:List Tm},l.map tv=r.map tv->l=r:=by
 induction l with
 |nil=>intro r h;cases r with
  |nil=>rfl
  |cons b r=>simp at h
 |cons a l ihl=>
  intro r h;cases r with
  |nil=>simp at h
  |cons b r=>
   simp only[q_h,List.cons.injEq] at h;rw[ih a (by simp) b h.1,ihl (fun x hx=>ih x (by simp[hx])) h.2]
theorem Bgy(a:Tm):∀b,tv a=tv b->a=b:=by
 induction a using Tm.ind with
 |h k i j n l ih=>
  intro b h;cases b with
  |mk k' i' j' n' l'=>
   rw[Ak,Ak] at h;simp only[List.cons.injEq,SV.int.injEq,SV.dsl.injEq,true_and,and_true] at h;obtain⟨rfl,rfl,rfl,rfl,h5⟩:=h;rw[A7l ih h5]
noncomputable def onT {α:Type}(f:Tm->α)(d:α)(r:List SV):α:=open Classical in if h:∃t,tv t=r then f (Classical.choose h) else d
theorem Jc{α:Type}(f:Tm->α)(d:α)(t:Tm):onT f d (tv t)=f t:=by
 have h:∃u,tv u=tv t:=⟨t,rfl⟩
 unfold onT;rw[dif_pos h,Bgy _ _ (Classical.choose_spec h)]
theorem rows5(l:List Tm):∀r∈l.map tv,r.length=5:=fun r hr=>by obtain⟨t,_,rfl⟩:=List.mem_map.1 hr;exact Ae t
mutual
def Ef:Tm->Int->Bool
 |.mk k i j n l,want=>In k i j n want l.length && Zu k 0 l
def Zu(k:Int):Nat->List Tm->Bool
 |_,[]=>true
 |p,t::l=>Ef t (ofN k p) && Zu k (p+1) l
end
theorem Bdx(k:Int):∀(l:List Tm) (p:Nat),Zu k p l=Gw (fun p t=>Ef t (ofN k p)) p l:=by
 intro l
 induction l with
 |nil=>intro p;rw[Zu];rfl
 |cons t l ih=>intro p;rw[Zu,Gw,ih]
theorem Ut(k i j n:Int)(l:List Tm)(want:Int):Ef (.mk k i j n l) want=(In k i j n want l.length && Gw (fun p t=>Ef t (ofN k p)) 0 l):=by rw[Ef,Bdx]
theorem Avb(t:Tm):TOk t->∀want,Con 56 [.agg true (tv t),.int .i64 want] (.bool (Ef t want)):=by
 induction t using Tm.ind with
 |h k i j n l ih=>
  intro hok want;cases hok with
  |mk _ _ _ _ _ f1 f2 f3 f4 hb hl=>
  have h:=Avc k i j n want (l.map tv) (fun p r=>onT (fun t=>Ef t (ofN k p)) false r) (by simpa using hb) (rows5 l) (fun p r hr=>by
   obtain⟨t,ht,rfl⟩:=List.mem_map.1 hr;simp only[Jc];exact ih t ht (hl t ht) _)
  rw[Apo,q_g,Agw (g:=fun p t=>Ef t (ofN k p)) (fun p t _=>by rw[Jc]),<-Ut,<-Ak] at h;exact h
theorem Rd(t:Tm)(ht:TOk t):Con 30 [.agg true (tv t)] (.bool (Ef t 2)):=by
 refine Al mixed Tryz.func30 tr30 ?_;have hc:=Avb t ht 2;cases t with
 |mk k i j n l=>
 rw[Ak] at hc |-;simp only[go_sem,seval];refine Aa hc ?_;simp only[go_sem,seval]
theorem Avm(k i j n:Int)(rows:GV)(h:k=1\/k=10\/k=11\/k=12):Con 63 [.agg true [.int .i64 k,.int .i64 i,.int .i64 j,.int .i64 n,.dsl 5 rows]] (.bool (lev i && ((j==0) && (n==0)))):=by
 refine Al mixed Tryz.func63 tr63 ?_;rcases h with rfl|rfl|rfl|rfl<;>simp only[go_sem,seval]<;>refine Aa (Xd i) ?_<;>(cases hL:lev i<;>cases hJ:(j==0)<;>cases hN:(n==0)<;>simp only[go_sem,seval,hJ,hN])
theorem Avn(i j n:Int)(rows:GV):Con 63 [.agg true [.int .i64 2,.int .i64 i,.int .i64 j,.int .i64 n,.dsl 5 rows]] (.bool (decide (0<=i) && (decide (i<=2147483647) && ((j==0) && (n==0))))):=by
 refine Al mixed Tryz.func63 tr63 ?_
 by_cases h1:0<=i<;>by_cases h2:i<=2147483647<;>cases hJ:(j==0)<;>cases hN:(n==0)<;>simp only[go_sem,seval,hJ,hN,h1,h2]
theorem Avp(k i j n:Int)(rows:GV)(h:k=3\/k=4\/k=5\/k=6\/k=7\/k=8\/k=9):Con 63 [.agg true [.int .i64 k,.int .i64 i,.int .i64 j,.int .i64 n,.dsl 5 rows]] (.bool (lev i && (lev j && (n==0)))):=by
 refine Al mixed Tryz.func63 tr63 ?_;rcases h with rfl|rfl|rfl|rfl|rfl|rfl|rfl<;>simp only[go_sem,seval]<;>refine Aa (Xd i) ?_<;>(cases hL:lev i<;>simp only[go_sem,seval];refine Aa (Xd j) ?_;cases hJ:lev j<;>cases hN:(n==0)<;>simp only[go_sem,seval,hN])
theorem Avo(i j n:Int)(rows:GV):Con 63 [.agg true [.int .i64 23,.int .i64 i,.int .i64 j,.int .i64 n,.dsl 5 rows]] (.bool (lev i && lev j)):=by
 refine Al mixed Tryz.func63 tr63 ?_;simp only[go_sem,seval];refine Aa (Xd i) ?_;cases hL:lev i
 ·simp only[go_sem,seval]
 ·simp only[go_sem,seval];refine Aa (Xd j) ?_;simp only[go_sem,seval]
theorem Avl(k i j n:Int)(rows:GV)(h:k<1\/(12<k/\k≠23)):Con 63 [.agg true [.int .i64 k,.int .i64 i,.int .i64 j,.int .i64 n,.dsl 5 rows]] (.bool ((i==0) && ((j==0) && (n==0)))):=by
 refine Al mixed Tryz.func63 tr63 ?_;simp only[go_sem,seval,Ah (show k≠1 by omega),Ah (show k≠2 by omega),Ah (show k≠3 by omega),Ah (show k≠4 by omega),Ah (show k≠5 by omega),Ah (show k≠6 by omega),Ah (show k≠7 by omega),Ah (show k≠8 by omega),Ah (show k≠9 by omega),Ah (show k≠10 by omega),Ah (show k≠11 by omega),Ah (show k≠12 by omega),Ah (show k≠23 by omega)];cases hI:(i==0)<;>cases hJ:(j==0)<;>cases hN:(n==0)<;>simp only[go_sem,seval,hJ,hN]
theorem Avk(k i j n:Int)(rows:GV):Con 63 [.agg true [.int .i64 k,.int .i64 i,.int .i64 j,.int .i64 n,.dsl 5 rows]] (.bool (Lq k i j n)):=by
 unfold Lq
 by_cases h1:k=1\/k=10\/k=11\/k=12
 ·rw[if_pos h1];exact Avm k i j n rows h1
 ·rw[if_neg h1]
  by_cases h2:k=2
  ·subst h2;rw[if_pos rfl];exact Avn i j n rows
  ·rw[if_neg h2]
   by_cases h3:3<=k/\k<=9
   ·rw[if_pos h3];exact Avp k i j n rows (by omega)
   ·rw[if_neg h3]
    by_cases h4:k=23
    ·subst h4;rw[if_pos rfl];exact Avo i j n rows
    ·rw[if_neg h4];exact Avl k i j n rows (by omega)
def Uj(k i j n:Int)(len:Nat):Bool:=((len:Int)==Bf k n) && Lq k i j n
theorem Ah1(k i j n:Int)(rows:GV):Con 39 [.agg true [.int .i64 k,.int .i64 i,.int .i64 j,.int .i64 n,.dsl 5 rows]] (.bool (Uj k i j n rows.length)):=by
 refine Al mixed Tryz.func39 tr39 ?_;simp only[go_sem,seval];refine Aa (Kl k n) ?_;unfold Uj;cases hK:((rows.length:Int)==Bf k n)
 ·simp only[go_sem,seval,hK]
 ·simp only[go_sem,seval,hK];refine Aa (Avk k i j n rows) ?_;simp only[go_sem,seval]
open Go Go.RowKit Go.Proofs.YtdpigpopcbjkmaaGreatDoor
def Abo(k i j n:Int)(len:Nat):Bool:=!((k != 1) && ((k != 2) && (decide (k<13) || decide (k > 23)))) && Uj k i j n len
def Anq(k i j n:Int)(len:Nat):Bool:=!(decide (k<1) || decide (k > 12)) && Uj k i j n len
theorem Avq(k i j n:Int)(rows:GV)(W:List SV->Bool)(h2:rows.length*56<=140737488355328)(h5:∀r∈rows,r.length=5)
  (H:∀r∈rows,Con 18 [.agg true r] (.bool (W r))) :
  Con 18 [.agg true [.int .i64 k,.int .i64 i,.int .i64 j,.int .i64 n,.dsl 5 rows]] (.bool (Abo k i j n rows.length && rows.all W)):=by
 refine Al mixed Tryz.func18 tr18 ?_;simp only[go_sem,seval];unfold Abo;have Rp:∀b:Bool,b=((k != 1) && ((k != 2) && (decide (k<13) || decide (k > 23))))->True:=fun _ _=>trivial
 cases h1:(k != 1)<;>cases Ir:(k != 2)<;>by_cases h3:k<13<;>by_cases h4:23<k<;>simp only[go_sem,seval,Ir,h3,h4]
 all_goals
  refine Aa (Ah1 k i j n rows) ?_;cases hN:Uj k i j n rows.length<;>simp only[go_sem,seval];refine So (fun x=>⟨(.J::.ref 0 0 0 0::.J::.int .i64 x::.J::.J::.J::.J::.J::.J::.J::.J::.J::.J::.J::.J::.J::.J::.J::.J::.J::.J::.J::.J::.J::.J::.J::.J::.J::.J::.J::.J::.J::.J::.J::.J::.J::.J::.J::.J::.J::[]),[⟨true,5,[[.int .i64 k,.int .i64 i,.int .i64 j,.int .i64 n,.dsl 5 rows]],0,0,true⟩]⟩) rows.length (fun x=>W (rows[x]?.getD [])=true) (fun x hx hp=>?_) ?_
  ·simp only[go_sem,seval];intro _;refine⟨fun h=>?_,fun h=>?_⟩
   ·have Ab:=of_decide_eq_true h;have Ch:x<rows.length:=by omega
    have e0:(0:Int)<=(x:Int):=by omega
    have hm:=Ic (d:=[]) Ch;have Dv:=h5 _ hm;simp only[go_sem,seval,Ab,e0,Dv];refine Aa (H _ hm) ?_;cases hW:W (rows[x]?.getD [])<;>simp only[go_sem,seval]
    ·rw[Apr (d:=[]) (i:=x) Ch hW]
    ·refine⟨Ch,?_⟩;rw[w64 (n:=(x:Int)+1) (by unfold fit;omega)];exact Au (by simp[An])
   ·have Fj:=of_decide_eq_false h;have Kt:x=rows.length:=by omega
    simp only[go_sem,seval,h];rw[Aps (d:=[]) (f:=W) (fun j hj=>hp j (by omega))]
  ·exact Au (by simp[An])
theorem Avi(k i j n:Int)(rows:GV)(W:Nat->List SV->Bool)(h2:rows.length*56<=140737488355328)(h5:∀r∈rows,r.length=5)
  (H1:∀p:Nat,∀r∈rows,((k==12) && ((p:Int)==2))=true->Con 18 [.agg true r] (.bool (W p r)))
  (H2:∀p:Nat,∀r∈rows,((k==12) && ((p:Int)==2))=false->Con 64 [.agg true r] (.bool (W p r))) :
  Con 64 [.agg true [.int .i64 k,.int .i64 i,.int .i64 j,.int .i64 n,.dsl 5 rows]] (.bool (Anq k i j n rows.length && Gw W 0 rows)):=by
 refine Al mixed Tryz.func64 tr64 ?_;simp only[go_sem,seval];unfold Anq
 by_cases h3:k<1<;>by_cases h4:12<k<;>simp only[go_sem,seval,h3,h4]
 all_goals
  refine Aa (Ah1 k i j n rows) ?_;cases hN:Uj k i j n rows.length<;>simp only[go_sem,seval];refine So (fun x=>⟨(.J::.ref 0 0 0 0::.J::.int .i64 x::.J::.J::.J::.J::.J::.J::.J::.J::.J::.J::.J::.J::.J::.J::.J::.J::.J::.J::.J::.J::.J::.J::.J::.J::.J::.J::.J::.J::.J::.J::.J::.J::.J::.J::.J::.J::.J::.J::.J::.J::.J::[]),[⟨true,5,[[.int .i64 k,.int .i64 i,.int .i64 j,.int .i64 n,.dsl 5 rows]],0,0,true⟩]⟩) rows.length (fun x=>W x (rows[x]?.getD [])=true) (fun x hx hp=>?_) ?_
  ·simp only[go_sem,seval];intro _;refine⟨fun h=>?_,fun h=>?_⟩
   ·have Ab:=of_decide_eq_true h;have Ch:x<rows.length:=by omega
    have e0:(0:Int)<=(x:Int):=by omega
    have hm:=Ic (d:=[]) Ch;have Dv:=h5 _ hm;have g1:=H1 x _ hm;have g2:=H2 x _ hm;cases Lh:(k==12)<;>cases Ks:((x:Int)==2)<;>simp only[go_sem,seval,Lh,Ks,Ab,e0,Dv]
    all_goals
     simp only[Lh,Ks,Bool.and_true,Bool.and_false,Bool.true_and,Bool.false_and,true_implies,reduceCtorEq,false_implies] at g1 g2
     first
      |refine Aa g1 ?_
      |refine Aa g2 ?_
     cases hW:W x (rows[x]?.getD [])<;>simp only[go_sem,seval]
     ·rw[Agx (d:=[]) (i:=x) Ch (by rw[Nat.zero_add];exact hW)]
     ·refine⟨Ch,?_⟩;rw[w64 (n:=(x:Int)+1) (by unfold fit;omega)];exact Au (by simp[An])
   ·have Fj:=of_decide_eq_false h;have Kt:x=rows.length:=by omega
    simp only[go_sem,seval,h];rw[Agy (d:=[]) (f:=W) (fun j hj=>by rw[Nat.zero_add];exact hp j (by omega))]
  ·exact Au (by simp[An])
abbrev Cb(t:Tm):Bool:=Ef t 2
theorem A6h(k n:Int)(h:k<=0\/23<k):Bf k n=-1:=by
 unfold Bf tab;rw[if_neg (by omega),if_neg (by simp only[List.length_cons,List.length_nil];omega)]
theorem A6q(k n:Int)(len:Nat)(h:k<=0\/23<k):((len:Int)==Bf k n)=false:=by
 rw[A6h k n h];exact Ah (by omega)
theorem Bd7(k i j n:Int)(len:Nat):Abo k i j n len=In k i j n 2 len:=by
 unfold Abo In Uj;rw[show (!((len:Int) != Bf k n))=((len:Int)==Bf k n) by simp[bne]]
 by_cases h:k<=0\/23<k
 ·rw[A6q k n len h];simp
 ·congr 1;have hs:Hz k=if k=1\/k=2 then 0 else if k<=12 then 1 else 2:=rfl
  by_cases h1:k=1
  ·subst h1;rfl
  ·by_cases h2:k=2
   ·subst h2;rfl
   ·rw[hs,if_neg (by omega)];have e1:(k != 1)=true:=by simp[h1]
    have e2:(k != 2)=true:=by simp[h2]
    rw[e1,e2];have e4:decide (k > 23)=false:=by simp;omega
    rw[e4]
    by_cases h3:k<=12
    ·rw[if_pos h3];have e3:decide (k<13)=true:=by simp;omega
     rw[e3];rfl
    ·rw[if_neg h3];have e3:decide (k<13)=false:=by simp;omega
     rw[e3];rfl
theorem Apn{α:Type}{f:α->Bool}:∀{l:List α} {p:Nat},Gw (fun _ x=>f x) p l=l.all f:=by
 intro l
 induction l with
 |nil=>intro p;rfl
 |cons x l ih=>intro p;simp only[Gw,List.all_cons,ih]
theorem Am6(k i j n:Int)(l:List Tm):Ef (.mk k i j n l) 2=(In k i j n 2 l.length && l.all Cb):=by
 rw[Ut];cases h:In k i j n 2 l.length
 ·rfl
 ·rw[Bool.true_and,Bool.true_and];unfold In at h;simp only[Bool.and_eq_true,Bool.or_eq_true,Bool.not_eq_true',bne_eq_false_iff_eq] at h;obtain⟨h1,h2,_⟩:=h;have hs:Hz k=if k=1\/k=2 then 0 else if k<=12 then 1 else 2:=rfl
  by_cases Lh:k=1\/k=2
  ·have:l=[]:=by
    rcases Lh with rfl|rfl
    ·exact List.length_eq_zero_iff.1 (by simpa [Bf,tab] using h2)
    ·exact List.length_eq_zero_iff.1 (by simpa [Bf,tab] using h2)
   subst this;rfl
  ·rw[if_neg Lh] at hs;have hk:Hz k=2:=by
    rcases h1 with h1|h1|h1
    ·omega
    ·rw[hs] at h1;split at h1<;>omega
    ·exact h1
   have h13:k≠12:=by
    intro e;subst e;simp[Hz] at hk
   rw[Agw (g:=fun _ t=>Cb t) (fun p t _=>by unfold ofN;rw[if_neg (by omega),hk]),Apn]
theorem Xe(t:Tm):TOk t->Con 18 [.agg true (tv t)] (.bool (Cb t)):=by
 induction t using Tm.ind with
 |h k i j n l ih=>
  intro hok;cases hok with
  |mk _ _ _ _ _ f1 f2 f3 f4 hb hl=>
  have h:=Avq k i j n (l.map tv) (onT Cb false) (by simpa using hb) (rows5 l) (fun r hr=>by
   obtain⟨t,ht,rfl⟩:=List.mem_map.1 hr;rw[Jc];exact ih t ht (hl t ht))
  rw[q_g,Bd7,List.all_map,<-Ak] at h;have e:l.all (onT Cb false ∘ tv)=l.all Cb:=by
   congr 1;funext t;simp[Jc]
  rw[e,<-Am6] at h;exact h
theorem Uu{α:Type}{l:List α}{i:Nat}{d:α}(h:i<l.length):l.take i++[l[i]?.getD d]=l.take (i+1):=by
 rw[List.take_add_one,q_f h];rfl
theorem Bg2:Tryz.prog.underlying 25=some (.float .f64):=by kernel_rfl
theorem Bg1{svs:List SV}(h:Hs Tryz.prog 25 svs):∃b,svs=[.float .f64 b]:=by
 have hu:=Bg2;cases h with
 |float _ k b h1 _=>rw[hu] at h1;cases h1;exact⟨b,rfl⟩
 |bool _ _ h1=>rw[hu] at h1;cases h1
 |int _ _ _ h1=>rw[hu] at h1;cases h1
 |str _ _ h1=>rw[hu] at h1;cases h1
 |slice _ _ _ h1=>rw[hu] at h1;cases h1
 |struct _ _ _ h1=>rw[hu] at h1;cases h1
theorem Ap3{x:SV}(h:Po Tryz.prog 25 x):∃b,x=.float .f64 b:=by
 cases h with
 |agg svs h1 _=>have e:Fx Tryz.prog 25=some false:=by kernel_rfl
                rw[e] at h1;cases h1
 |one x _ h2=>
  obtain⟨b,e⟩:=Bg1 h2;cases e;exact⟨b,rfl⟩
theorem Aox{P:Program}{t:TypeId}{ts:List TypeId}{args:List SV}(h:Sv P (t::ts) args):∃x xs,args=x::xs/\Po P t x/\Sv P ts xs:=by
 cases args with
 |nil=>exact h.elim
 |cons x xs=>exact⟨x,xs,rfl,h.1,h.2⟩
theorem Bg0{P:Program}{args:List SV}(h:Sv P [] args):args=[]:=by
 cases args with
 |nil=>rfl
 |cons x xs=>exact h.elim
theorem own:ownKnob Tryz.prog.godebug=none:=by kernel_rfl
theorem laid:laidOutB Tryz.prog=true:=by kernel_rfl
structure HT where
 i:Int
 a:Tm
 b:Tm
 x:Tm
 y:Tm
 h:Tm
def HT.v(g:HT):List SV:=hv g.i g.a g.b g.x g.y g.h
structure HT.ok(g:HT):Prop where
 i:fit g.i
 a:TOk g.a
 b:TOk g.b
 x:TOk g.x
 y:TOk g.y
 h:TOk g.h
def zT:Tm:=.mk 0 0 0 0 []
theorem Ale:Le (.agg true [.int .i64 0,.int .i64 0,.int .i64 0,.int .i64 0,.nils]) (.agg true (tv zT)):=Ms 0 0 0 0
def us(n i j:Int)(l:List Tm):Tm:=.mk 23 i j n l
theorem tv_0{t:Tm}:(tv t)[0]?=some (.int .i64 t.k):=by cases t;rw[Ak];rfl
theorem tmT:TmT Tryz.prog 24 22 3:=⟨by kernel_rfl,by kernel_rfl,by kernel_rfl,by kernel_rfl,by kernel_rfl⟩
theorem Ag2{x:SV}(h:Po Tryz.prog 24 x):∃t,x=.agg true (tv t)/\TOk t:=by
 cases h with
 |agg svs _ h2=>
  obtain⟨t,ht,rfl⟩:=(Aoy tmT h2).1 rfl;exact⟨t,rfl,ht⟩
 |one x h1 _=>have e:Fx Tryz.prog 24=some true:=by kernel_rfl
              rw[e] at h1;cases h1
mutual
def Kp:Tm->Nat
 |.mk _ _ _ _ l=>Qa l+1
def Qa:List Tm->Nat
 |[]=>0
 |t::l=>max (Kp t) (Qa l)
end
theorem Ad1(k i j n:Int)(l:List Tm):Kp (.mk k i j n l)=Qa l+1:=by rw[Kp]
theorem Aj5{t:Tm}:∀{l:List Tm},t∈l->Kp t<=Qa l:=by
 intro l
 induction l with
 |nil=>intro h;cases h
 |cons u l ih=>
  intro h;rw[Qa];rcases List.mem_cons.1 h with rfl|h
  ·omega
  ·have:=ih h;omega
theorem A3w{b:Nat}:∀{l:List Tm},(∀t∈l,Kp t<=b)->Qa l<=b:=by
 intro l
 induction l with
 |nil=>intro _;rw[Qa];omega
 |cons u l ih=>
  intro h;rw[Qa];have h1:=h u (by simp);have h2:=ih (fun t ht=>h t (by simp[ht]));omega
def Dk(a:Int)(V:Nat->Int->Int)(most:Int):Nat->Int
 |0=>a
 |x+1=>IntKind.i64.wrap (Dk a V most x+V x (IntKind.i64.wrap (most-Dk a V most x)))
theorem Bh2(k i j n most deep:Int)(rows:GV)(hd:deep<0):Con 38 [.agg true [.int .i64 k,.int .i64 i,.int .i64 j,.int .i64 n,.dsl 5 rows],.int .i64 most,.int .i64 deep] (.int .i64 (IntKind.i64.wrap (most+1))):=by
 refine Al mixed Tryz.func38 tr38 ?_;simp only[go_sem,seval,hd]
theorem Bh3(k i j n most deep:Int)(rows:GV)(W:List SV->Int->Int->Int)(h2:rows.length*56<=140737488355328)(h5:∀r∈rows,r.length=5)
  (H:∀r∈rows,∀m d,Con 38 [.agg true r,.int .i64 m,.int .i64 d] (.int .i64 (W r m d))) (hd:¬deep<0) (m:Nat) (Mm:m<=rows.length)
  (hm2:m=rows.length\/most<Lu W rows most (IntKind.i64.wrap (deep-1)) m) (Ty:∀y,y<m->¬most<Lu W rows most (IntKind.i64.wrap (deep-1)) y) :
  Con 38 [.agg true [.int .i64 k,.int .i64 i,.int .i64 j,.int .i64 n,.dsl 5 rows],.int .i64 most,.int .i64 deep] (.int .i64 (Lu W rows most (IntKind.i64.wrap (deep-1)) m)):=by
 refine Al mixed Tryz.func38 tr38 ?_;simp only[go_sem,seval,hd];refine Je (fun x=>⟨(.J::.int .i64 most::.int .i64 deep::.ref 0 0 0 0::.J::.J::.int .i64 0::.int .i64 (Lu W rows most (IntKind.i64.wrap (deep-1)) x)::.int .i64 x::.J::.J::.J::.J::.J::.J::.J::.J::.J::.J::.J::.J::.J::.J::.J::.J::.J::.J::.J::.J::.J::.J::.J::.J::.J::.J::.J::.J::.J::.J::[]),[⟨true,5,[[.int .i64 k,.int .i64 i,.int .i64 j,.int .i64 n,.dsl 5 rows]],0,0,true⟩]⟩) m (fun x hx=>?_) ?_
 ·simp only[go_sem,seval];intro _
  by_cases hxm:x=m
  ·subst hxm;rcases hm2 with rfl|hm2
   ·have hl:¬((rows.length:Int)<(rows.length:Int)):=by omega
    simp only[go_sem,seval,hl]
   ·have hl:¬(Lu W rows most (IntKind.i64.wrap (deep-1)) x<=most):=by omega
    refine⟨fun h=>?_,fun h=>?_⟩
    ·simp only[go_sem,seval,h,hl]
    ·simp only[go_sem,seval,h,hl]
  ·have Fk:x<rows.length:=by omega
   have Zb:(x:Int)<(rows.length:Int):=by omega
   have e0:(0:Int)<=(x:Int):=by omega
   have hle:Lu W rows most (IntKind.i64.wrap (deep-1)) x<=most:=by have:=Ty x (by omega);omega
   have hm:=Ic (d:=[]) Fk;have Dv:=h5 _ hm;simp only[go_sem,seval,Zb,hle,e0,Dv];refine Aa (H _ hm _ _) ?_;simp only[go_sem,seval];refine⟨by omega,?_⟩;rw[w64 (n:=(x:Int)+1) (by unfold fit;omega)];exact Au (by simp[An,Lu])
 ·exact Au (by simp[An,Lu])
theorem Af0(W:List SV->Int->Int->Int)(rows:GV)(most d:Int):∀x,Lu W rows most d x=Dk 1 (fun y m=>W (rows[y]?.getD []) m d) most x:=by
 intro x
 induction x with
 |zero=>rfl
 |succ x ih=>rw[Lu,Dk,ih]
open Go Go.RowKit Go.Proofs.YtdpigpopcbjkmaaGreatDoor
def Bl(k p:Int):Int:=
 if k=3\/k=5\/k=6\/k=7\/k=8\/k=9\/k=13\/k=14\/k=16\/k=17 then (if p=1 then 1 else 0)
 else if k=4 then (if p=1\/p=2 then 1 else 0)
 else if k=22 then (if p=2 then 2 else 0) else 0
theorem Nc(k p:Int):0<=Bl k p/\Bl k p<=2:=by
 unfold Bl
 repeat' split
 all_goals omega
theorem Atu(k p:Int):Con 60 [.int .i64 k,.int .i64 p] (.int .i64 (Bl k p)):=by
 refine Al mixed Tryz.func60 tr60 ?_
 by_cases h:k=3\/k=5\/k=6\/k=7\/k=8\/k=9\/k=13\/k=14\/k=16\/k=17
 ·have e:Bl k p=if p=1 then 1 else 0:=by unfold Bl;rw[if_pos h]
  rw[e];rcases h with rfl|rfl|rfl|rfl|rfl|rfl|rfl|rfl|rfl|rfl <;>
   (cases hp:(p==1)<;>simp only[beq_iff_eq,beq_eq_false_iff_ne,ne_eq] at hp<;>simp only[go_sem,seval,hp,Ah])
 ·by_cases h4:k=4
  ·subst h4;have e:Bl 4 p=if p=1\/p=2 then 1 else 0:=by unfold Bl;rw[if_neg (by decide),if_pos rfl]
   rw[e]
   by_cases h1:p=1
   ·subst h1;simp only[go_sem,seval]
   ·by_cases h2:p=2
    ·subst h2;simp only[go_sem,seval]
    ·rw[if_neg (by omega)];simp only[go_sem,seval,Ah h1,Ah h2]
  ·by_cases Du:k=22
   ·subst Du;have e:Bl 22 p=if p=2 then 2 else 0:=by unfold Bl;rw[if_neg (by decide),if_neg (by decide),if_pos rfl]
    rw[e]
    by_cases h2:p=2
    ·subst h2;simp only[go_sem,seval]
    ·rw[if_neg h2];simp only[go_sem,seval,Ah h2]
   ·have e:Bl k p=0:=by unfold Bl;rw[if_neg h,if_neg h4,if_neg Du]
    rw[e];simp only[go_sem,seval,Ah (show k≠3 by omega),Ah h4,Ah (show k≠5 by omega),Ah (show k≠6 by omega),Ah (show k≠7 by omega),Ah (show k≠8 by omega),Ah (show k≠9 by omega),Ah (show k≠13 by omega),Ah (show k≠14 by omega),Ah (show k≠16 by omega),Ah (show k≠17 by omega),Ah Du]
theorem Co(k p:Int):Con 65 [.int .i64 k,.int .i64 p] (.int .i64 (Bl k p)):=by
 refine Al mixed Tryz.func65 tr65 ?_
 by_cases h:k=3\/k=5\/k=6\/k=7\/k=8\/k=9\/k=13\/k=14\/k=16\/k=17
 ·have e:Bl k p=if p=1 then 1 else 0:=by unfold Bl;rw[if_pos h]
  rw[e];rcases h with rfl|rfl|rfl|rfl|rfl|rfl|rfl|rfl|rfl|rfl <;>
   (cases hp:(p==1)<;>simp only[beq_iff_eq,beq_eq_false_iff_ne,ne_eq] at hp<;>simp only[go_sem,seval,hp,Ah])
 ·by_cases h4:k=4
  ·subst h4;have e:Bl 4 p=if p=1\/p=2 then 1 else 0:=by unfold Bl;rw[if_neg (by decide),if_pos rfl]
   rw[e]
   by_cases h1:p=1
   ·subst h1;simp only[go_sem,seval]
   ·by_cases h2:p=2
    ·subst h2;simp only[go_sem,seval]
    ·rw[if_neg (by omega)];simp only[go_sem,seval,Ah h1,Ah h2]
  ·by_cases Du:k=22
   ·subst Du;have e:Bl 22 p=if p=2 then 2 else 0:=by unfold Bl;rw[if_neg (by decide),if_neg (by decide),if_pos rfl]
    rw[e]
    by_cases h2:p=2
    ·subst h2;simp only[go_sem,seval]
    ·rw[if_neg h2];simp only[go_sem,seval,Ah h2]
   ·have e:Bl k p=0:=by unfold Bl;rw[if_neg h,if_neg h4,if_neg Du]
    rw[e];simp only[go_sem,seval,Ah (show k≠3 by omega),Ah h4,Ah (show k≠5 by omega),Ah (show k≠6 by omega),Ah (show k≠7 by omega),Ah (show k≠8 by omega),Ah (show k≠9 by omega),Ah (show k≠13 by omega),Ah (show k≠14 by omega),Ah (show k≠16 by omega),Ah (show k≠17 by omega),Ah Du]
mutual
def Hm(k:Int):Int->Tm->Option Tm
 |fr,.mk kk i j n l=>
  if kk=2/\fr<=i then (if 2147483647-i<k then none else (Wg k fr kk 0 l).map (Tm.mk kk (i+k) j n))
  else (Wg k fr kk 0 l).map (Tm.mk kk i j n)
def Wg(k:Int):Int->Int->Nat->List Tm->Option (List Tm)
 |_,_,_,[]=>some []
 |fr,kk,p,t::l=>match Hm k (fr+Bl kk p) t with
  |none=>none
  |some u=>match Wg k fr kk (p+1) l with
   |none=>none
   |some r=>some (u::r)
end
def Cf{α β:Type}(X:Nat->α->Option β):Nat->List α->Option (List β)
 |_,[]=>some []
 |p,x::l=>match X p x with
  |none=>none
  |some u=>match Cf X (p+1) l with
   |none=>none
   |some r=>some (u::r)
theorem A6t(k fr kk:Int):∀(l:List Tm) (p:Nat),Wg k fr kk p l=Cf (fun p t=>Hm k (fr+Bl kk p) t) p l:=by
 intro l
 induction l with
 |nil=>intro p;rw[Wg];rfl
 |cons t l ih=>
  intro p;rw[Wg,Cf,ih];cases Hm k (fr+Bl kk p) t with
  |none=>rfl
  |some u=>cases Cf (fun p t=>Hm k (fr+Bl kk ((p:Nat):Int)) t) (p+1) l<;>rfl
theorem Sx{α β:Type}{X:Nat->α->Option β}{d:α}:∀{l:List α} {p i:Nat},i<l.length->X (p+i) (l[i]?.getD d)=none->Cf X p l=none:=by
 intro l
 induction l with
 |nil=>intro p i h;simp at h
 |cons x l ih=>
  intro p i hi h;rw[Cf];cases i with
  |zero=>have h':X p x=none:=by simpa using h
         rw[h']
  |succ i=>
   rw[ih (p:=p+1) (i:=i) (by simpa using hi) (by rw[show p+1+i=p+(i+1) by omega];simpa using h)];split<;>rfl
theorem Ack{α β:Type}{X:Nat->α->Option β}{d:α}{e:β}:∀{l:List α} {p:Nat},(∀i,i<l.length->X (p+i) (l[i]?.getD d)≠none)->Cf X p l=some ((List.range l.length).map fun i=>(X (p+i) (l[i]?.getD d)).getD e):=by
 intro l
 induction l with
 |nil=>intro p _;rfl
 |cons x l ih=>
  intro p h;have h0:=h 0 (by simp);simp only[Nat.add_zero,List.getElem?_cons_zero,Option.getD_some] at h0;have hr:=ih (p:=p+1) (fun i hi=>by
   have:=h (i+1) (by simp;omega);rw[show p+1+i=p+(i+1) by omega];simpa using this)
  rw[Cf];cases hx:X p x with
  |none=>exact absurd hx h0
  |some u=>
   simp only[hr];rw[List.length_cons,List.range_succ_eq_map,q_h,List.map_map];simp only[Nat.add_zero,List.getElem?_cons_zero,Option.getD_some,hx];congr 2;apply List.map_congr_left;intro i _;simp only[Function.comp,List.getElem?_cons_succ];rw[show p+1+i=p+(i+1) by omega]
theorem Aci{α β γ:Type}{X:Nat->β->Option γ}{g:α->β}:∀{l:List α} {p:Nat},Cf X p (l.map g)=Cf (fun i x=>X i (g x)) p l:=by
 intro l
 induction l with
 |nil=>intro p;rfl
 |cons x l ih=>intro p;simp only[q_h,Cf,ih]
theorem Ach{α β:Type}{X Y:Nat->α->Option β}:∀{l:List α} {p:Nat},(∀i,∀x∈l,X i x=Y i x)->Cf X p l=Cf Y p l:=by
 intro l
 induction l with
 |nil=>intro p _;rfl
 |cons x l ih=>
  intro p h;simp only[Cf];rw[h p x (by simp),ih (fun i y hy=>h i y (by simp[hy]))]
theorem Acj{α β γ:Type}{X:Nat->α->Option β}{g:β->γ}:∀{l:List α} {p:Nat},Cf (fun i x=>(X i x).map g) p l=(Cf X p l).map (List.map g):=by
 intro l
 induction l with
 |nil=>intro p;rfl
 |cons x l ih=>
  intro p;simp only[Cf];cases X p x with
  |none=>rfl
  |some u=>
   simp only[Option.map_some,ih];cases Cf X (p+1) l<;>rfl
def Dj:Option (List SV)->SV
 |some r=>.tup [.agg true r,.bool true]
 |none=>.tup [.agg true (tv zT),.bool false]
theorem Aas:Le (.tup [.agg true [.int .i64 0,.int .i64 0,.int .i64 0,.int .i64 0,.nils],.bool false]) (Dj none):=by
 refine .tup _ _ (.cons _ _ _ _ ?_ (.cons _ _ _ _ (.cell _ _ (.refl _)) .nil));have h:=Ale;cases h with
 |val _ _ h=>exact h
theorem Alc(k i j n:Int):Le (.tup [.agg true [.int .i64 k,.int .i64 i,.int .i64 j,.int .i64 n,.nils],.bool true]) (Dj (some [.int .i64 k,.int .i64 i,.int .i64 j,.int .i64 n,.dsl 5 []])):=by
 refine .tup _ _ (.cons _ _ _ _ ?_ (.cons _ _ _ _ (.cell _ _ (.refl _)) .nil));have h:=Ms k i j n;rw[Ak] at h;cases h with
 |val _ _ h=>exact h
def Pc(kk i k fr:Int):Option Int:=if kk=2/\fr<=i then (if 2147483647-i<k then none else some (i+k)) else some i
def Aav(kk i j n k fr:Int)(r:Option (GV)):Option (List SV):=
 (Pc kk i k fr).bind fun i'=>r.map fun rs=>[.int .i64 kk,.int .i64 i',.int .i64 j,.int .i64 n,.dsl 5 rs]
end Go.Proofs.YtdpigpopcbjkmaaGreatDoor.Abs
