import Derived.Test.YtdpigpopcbjkmaaGreatDoorXTc
import Derived.Test.YtdpigpopcbjkmaaGreatDoorXMa
import Derived.Test.YtdpigpopcbjkmaaGreatDoorXBi
import Derived.Test.YtdpigpopcbjkmaaGreatDoorXMn
import Derived.Test.YtdpigpopcbjkmaaGreatDoorXDo
set_option linter.unusedSimpArgs false
set_option linter.unusedVariables false
set_option maxRecDepth 20000
set_option maxHeartbeats 4000000
namespace Go.Proofs.YtdpigpopcbjkmaaGreatDoor.Abs
open Go Go.RowKit Go.Proofs.YtdpigpopcbjkmaaGreatDoor
def rdR(L:List Tok)(k e:Nat)(nm:SV)(i j:Nat):List SV:=[.dsl 3 (L.map Fd),.int .i64 k,.int .i64 e,nm,.int .i64 i,.int .i64 j,.bool false,.int .i64 0]
structure At(L:List Tok)(k:Nat)(t:Tok)(r:List Tok):Prop where
 lt:k<L.length
 ltz:(k:Int)<(L.length:Int)
 ge:(0:Int)<=(k:Int)
 row:(L.map Fd)[k]?.getD []=[.int .i64 t.k,.str (bs t.w),.int .i64 t.p]
 nx:L.drop (k+1)=r
 w1:L.length<1000000000000->IntKind.i64.wrap ((k:Int)+1)=((k+1:Nat):Int)
 w2:L.length<1000000000000->IntKind.i64.wrap (((k+1:Nat):Int)-1)=(k:Int)
 nge:¬(k:Int) >= (L.length:Int)
 nle:¬(L.length:Int)<=(k:Int)
 big:L.length<1000000000000->(L.length<=140737488355328)=True
theorem Dk{L:List Tok}{k:Nat}{t:Tok}{r:List Tok}(h:L.drop k=t::r):At L k t r:=by
 have Ab:k<L.length:=by
  have:=congrArg List.length h;simp at this;omega
 have hk:L[k]?=some t:=by
  have:=congrArg (fun l=>l[0]?) h;simpa using this
 refine⟨Ab,by omega,by omega,by rw[List.getElem?_map,hk];rfl,?_,fun h=>by rw[w64 (by unfold fit;omega)];omega,fun h=>by rw[w64 (by unfold fit;omega)];omega,by omega,by omega,fun h=>by simp;omega⟩;have:=congrArg (List.drop 1) h
 rwa [List.drop_drop] at this
theorem Ale(n:Int):(n != n)=false:=by simp
theorem Iv{L:List Tok}{k e i j:Nat}{nm:SV}{G:GV}{t:Tok}{r:List Tok}(h:L.drop k=t::r)(hL:L.length<1000000000000) :
  Ad 150 (rdR L k e nm i j::G) [.gp 0 0,.int .i64 t.k] (.ret (.str (bs t.w))) (rdR L (k+1) e nm i j::G):=by
 obtain⟨a1,a2,a3,a4,a5,a6,a7,a8,a9,a10⟩:=Dk h;have a6:=a6 hL;have a7:=a7 hL;have a10:=a10 hL;refine Aq mixed Tryz.func150 tr150 ?_;unfold rdR;simp only[go_sem,seval,a1,a2,a3,a4,a6,a7,a8,a9,a10,forall_const,q_g,Ale]
theorem Ae7{t:Tok}{le:LE}(h:Je t=some le):(t.k=4/\t.w=[48]/\le=.z)\/(t.k=3/\t.w=[105]/\le=.i)\/(t.k=3/\t.w=[106]/\le=.j):=by
 obtain⟨k,w,p⟩:=t;unfold Je at h;simp only at h |-;split at h
 ·rename_i hk;split at h
  ·rename_i hw;simp only[q_b] at h;exact .inl ⟨hk,by simpa using hw,h.symm⟩
  ·cases h
 ·split at h
  ·rename_i hk;split at h
   ·rename_i hw;simp only[q_b] at h;exact .inr (.inl ⟨hk,by simpa using hw,h.symm⟩)
   ·split at h
    ·rename_i hw;simp only[q_b] at h;exact .inr (.inr ⟨hk,by simpa using hw,h.symm⟩)
    ·cases h
  ·cases h
theorem b105:(([105]:By)==[105])=true:=by decide
theorem b106:(([106]:By)==[105])=false:=by decide
theorem b1066:(([106]:By)==[106])=true:=by decide
theorem bsuc:(([115,117,99]:By)==[115,117,99])=true:=by decide
theorem bmax:(([109,97,120]:By)==[115,117,99])=false:=by decide
theorem bmax2:(([109,97,120]:By)==[109,97,120])=true:=by decide
theorem w6{L:List Tok}{k e i j:Nat}{nm:SV}{G:GV}{t:Tok}{r:List Tok}{le:LE}(h:L.drop k=t::r)(hL:L.length<1000000000000)(hi:i<1000)(hj:j<1000)(hle:Je t=some le) :
  Ad 156 (rdR L k e nm i j::G) [.gp 0 0] (.ret (.int .i64 (le.ev i j))) (rdR L (k+1) e nm i j::G):=by
 obtain⟨a1,a2,a3,a4,a5,a6,a7,a8,a9,a10⟩:=Dk h;have a6:=a6 hL;have a7:=a7 hL;have a10:=a10 hL;have i1:¬(i:Int) > 1000:=by omega
 have i2:¬1000<(i:Int):=by omega
 have j1:¬(j:Int) > 1000:=by omega
 have j2:¬1000<(j:Int):=by omega
 obtain⟨out,ho⟩:∃out,out=HOut.ret (.int .i64 (le.ev i j)):=⟨_,rfl⟩
 rw[<-ho];refine Aq mixed Tryz.func156 tr156 ?_;unfold rdR;rcases Ae7 hle with⟨hk,hw,rfl⟩|⟨hk,hw,rfl⟩|⟨hk,hw,rfl⟩
 ·rw[hk,hw] at a4;simp only[go_sem,seval,a1,a2,a3,a4,a6,a7,a8,a9,a10,forall_const,q_g];refine Aa Ac0 ?_;subst ho;simp only[go_sem,seval,a1,a2,a3,a4,a6,a7,a8,a9,a10,forall_const,q_g,LE.ev]
 ·rw[hk,hw] at a4;simp only[go_sem,seval,a1,a2,a3,a4,a6,a7,a8,a9,a10,forall_const,q_g,b105,i1,i2];subst ho;simp only[go_sem,seval,LE.ev]
 ·rw[hk,hw] at a4;simp only[go_sem,seval,a1,a2,a3,a4,a6,a7,a8,a9,a10,forall_const,q_g,b106,b1066,j1,j2];subst ho;simp only[go_sem,seval,LE.ev]
theorem Ajv{L:List Tok}{k e i j:Nat}{nm:SV}{G:GV}{t u z:Tok}{r:List Tok}{le:LE}(h:L.drop k=t::u::z::r)(hL:L.length<1000000000000)(hi:i<1000)(hj:j<1000)(hk:t.k=3)(hw:t.w=[115,117,99])(hle:Je u=some le)(hz:z.k=2)(hb:le.ev i j<1000) :
  Ad 160 (rdR L k e nm i j::G) [.gp 0 0] (.ret (.int .i64 ((le.ev i j+1:Nat):Int))) (rdR L (k+1+1+1) e nm i j::G):=by
 obtain⟨a1,a2,a3,a4,a5,a6,a7,a8,a9,a10⟩:=Dk h;have a6:=a6 hL;have a7:=a7 hL;have a10:=a10 hL;have h2:=Dk a5;obtain⟨out,ho⟩:∃out,out=HOut.ret (.int .i64 ((le.ev i j+1:Nat):Int)):=⟨_,rfl⟩
 rw[<-ho];refine Aq mixed Tryz.func160 tr160 ?_;rw[hk,hw] at a4;have hl:=w6 (e:=e) (nm:=nm) (G:=G) a5 hL hi hj hle;have hn:=Iv (e:=e) (nm:=nm) (i:=i) (j:=j) (G:=G) h2.nx hL;rw[hz] at hn;unfold rdR at hl hn |-;simp only[go_sem,seval,a1,a2,a3,a4,a6,a7,a8,a9,a10,forall_const,q_g,bsuc];refine Ac hl ?_;simp only[go_sem,seval];refine Ac hn ?_;simp only[go_sem,seval];subst ho;have hw2:IntKind.i64.wrap ((le.ev i j:Int)+1)=((le.ev i j+1:Nat):Int):=by rw[w64 (by unfold fit;omega)];omega
 simp only[go_sem,seval,hw2]
theorem A2z{L:List Tok}{k e i j:Nat}{nm:SV}{G:GV}{t u v z:Tok}{r:List Tok}{le lf:LE}(h:L.drop k=t::u::v::z::r)(hL:L.length<1000000000000)(hi:i<1000)(hj:j<1000)(hk:t.k=3)(hw:t.w=[109,97,120])(hle:Je u=some le)(hlf:Je v=some lf)(hz:z.k=2) :
  Ad 160 (rdR L k e nm i j::G) [.gp 0 0] (.ret (.int .i64 ((max (le.ev i j) (lf.ev i j):Nat):Int))) (rdR L (k+1+1+1+1) e nm i j::G):=by
 obtain⟨a1,a2,a3,a4,a5,a6,a7,a8,a9,a10⟩:=Dk h;have a6:=a6 hL;have a7:=a7 hL;have a10:=a10 hL;have h2:=Dk a5;have h3:=Dk h2.nx;obtain⟨out,ho⟩:∃out,out=HOut.ret (.int .i64 ((max (le.ev i j) (lf.ev i j):Nat):Int)):=⟨_,rfl⟩
 rw[<-ho];refine Aq mixed Tryz.func160 tr160 ?_;rw[hk,hw] at a4;have hl:=w6 (e:=e) (nm:=nm) (G:=G) a5 hL hi hj hle;have hm:=w6 (e:=e) (nm:=nm) (G:=G) h2.nx hL hi hj hlf;have hn:=Iv (e:=e) (nm:=nm) (i:=i) (j:=j) (G:=G) h3.nx hL;rw[hz] at hn;unfold rdR at hl hm hn |-;simp only[go_sem,seval,a1,a2,a3,a4,a6,a7,a8,a9,a10,forall_const,q_g,bmax,bmax2];refine Ac hl ?_;simp only[go_sem,seval];refine Ac hm ?_;simp only[go_sem,seval];refine Ac hn ?_;simp only[go_sem,seval];subst ho;simp only[go_sem,seval];congr 1;split<;>omega
theorem Oh{α:Type}{x y:α}{l r:List Tok}(h:Og x l=some (y,r)):∃t,l=t::r/\t.k=2/\x=y:=by
 unfold Og at h;split at h
 ·split at h
  ·rename_i hk;simp only[q_b,Prod.mk.injEq] at h;exact⟨_,by rw[h.2],hk,h.1⟩
  ·cases h
 ·cases h
theorem Ar{L:List Tok}{k:Nat}{t:Tok}{r:List Tok}(h:L.drop k=t::r):L.drop (k+1)=r:=(Dk h).nx
theorem Adw{L:List Tok}{k e i j:Nat}{nm:SV}{G:GV}{ts r:List Tok}{le:LE}(h:L.drop k=ts)(hL:L.length<1000000000000)(hi:i<1000)(hj:j<1000)(hle:Pc ts=some (le,r)) :
  ∃k',L.drop k'=r/\Ad 156 (rdR L k e nm i j::G) [.gp 0 0] (.ret (.int .i64 (le.ev i j))) (rdR L k' e nm i j::G):=by
 cases ts with
 |nil=>cases hle
 |cons t ts=>
 unfold Pc at hle;dsimp only at hle;split at hle
 ·rename_i hk;have key:∀(k':Nat),Ad 160 (rdR L (k+1) e nm i j::G) [.gp 0 0] (.ret (.int .i64 (le.ev i j))) (rdR L k' e nm i j::G)->(le.ev i j<=1000) ->
    Ad 156 (rdR L k e nm i j::G) [.gp 0 0] (.ret (.int .i64 (le.ev i j))) (rdR L k' e nm i j::G):=by
   intro k' hm hb;obtain⟨a1,a2,a3,a4,a5,a6,a7,a8,a9,a10⟩:=Dk h;have a6:=a6 hL;have a7:=a7 hL;have a10:=a10 hL;have i1:¬(le.ev i j:Int) > 1000:=by omega
   have i2:¬1000<(le.ev i j:Int):=by omega
   obtain⟨out,ho⟩:∃out,out=HOut.ret (.int .i64 (le.ev i j)):=⟨_,rfl⟩
   rw[<-ho];refine Aq mixed Tryz.func156 tr156 ?_;rw[hk] at a4;unfold rdR at hm |-;simp only[go_sem,seval,a1,a2,a3,a4,a6,a7,a8,a9,a10,forall_const,q_g];refine Ac hm ?_;simp only[go_sem,seval,i1,i2];subst ho;simp only[go_sem,seval]
  have Nj:=Ar h
  match ts,hle with
  |[],hle=>cases hle
  |[u],hle=>cases hle
  |u::x::r1,hle=>
   dsimp only at hle;split at hle
   ·rename_i hu;split at hle
    ·rename_i hs;have hs:u.w=[115,117,99]:=by simpa using hs
     split at hle
     ·rename_i hx;obtain⟨z,Ci,Dy,Nv⟩:=Oh hle;subst Nv Ci;exact⟨_,Ar (Ar (Ar Nj)),key _ (Ajv Nj hL hi hj hu hs hx Dy hi) (by simp only[LE.ev];omega)⟩
     ·rename_i hx;obtain⟨z,Ci,Dy,Nv⟩:=Oh hle;subst Nv Ci;exact⟨_,Ar (Ar (Ar Nj)),key _ (Ajv Nj hL hi hj hu hs hx Dy hj) (by simp only[LE.ev];omega)⟩
     ·cases hle
    ·split at hle
     ·rename_i hs;have hs:u.w=[109,97,120]:=by simpa using hs
      match r1,hle with
      |[],hle=>cases hle
      |y::r2,hle=>
       dsimp only at hle;split at hle
       ·rename_i hx hy;obtain⟨z,Ci,Dy,Nv⟩:=Oh hle;subst Nv Ci;exact⟨_,Ar (Ar (Ar (Ar Nj))),key _ (A2z Nj hL hi hj hu hs hx hy Dy) (by simp only[LE.ev];omega)⟩
       ·cases hle
     ·cases hle
   ·cases hle
 ·cases ha:Je t with
  |none=>rw[ha] at hle;cases hle
  |some le'=>
   rw[ha] at hle;simp only[Option.map_some,q_b,Prod.mk.injEq] at hle;obtain⟨rfl,rfl⟩:=hle;exact⟨_,Ar h,w6 h hL hi hj ha⟩
theorem Aum:Con 151 [.str (bs [115,111,114,116])] (.tup [.int .i64 1,.str (bs [76])]):=by
 refine Al mixed Tryz.func151 tr151 ?_;simp only[go_sem,seval,(show (([115,111,114,116]:By)==[115,111,114,116])=true by decide)]
theorem Ava:Con 155 [.str (bs [80,105])] (.tup [.int .i64 13,.str (bs [120,116,98])]):=by
 refine Al mixed Tryz.func155 tr155 ?_;simp only[go_sem,seval,(show (([80,105]:By)==[80,105])=true by decide)]
theorem Aui:Con 151 [.str (bs [80,105])] (.tup [.int .i64 13,.str (bs [120,116,98])]):=by
 refine Al mixed Tryz.func151 tr151 ?_;simp only[go_sem,seval,(show (([80,105]:By)==[115,111,114,116])=false by decide),(show (([80,105]:By)==[112,105])=false by decide),(show (([80,105]:By)==[108,97,109])=false by decide),(show (([80,105]:By)==[97,112,112])=false by decide),(show (([80,105]:By)==[115,105,103])=false by decide),(show (([80,105]:By)==[112,97,105,114])=false by decide),(show (([80,105]:By)==[102,115,116])=false by decide),(show (([80,105]:By)==[115,110,100])=false by decide),(show (([80,105]:By)==[101,113])=false by decide),(show (([80,105]:By)==[114,101,102,108])=false by decide),(show (([80,105]:By)==[116,114])=false by decide)];refine Aa Ava ?_;simp only[go_sem,seval]
theorem Au8:Con 155 [.str (bs [76,97,109])] (.tup [.int .i64 14,.str (bs [120,116,98])]):=by
 refine Al mixed Tryz.func155 tr155 ?_;simp only[go_sem,seval,(show (([76,97,109]:By)==[80,105])=false by decide),(show (([76,97,109]:By)==[76,97,109])=true by decide)]
theorem Aug:Con 151 [.str (bs [76,97,109])] (.tup [.int .i64 14,.str (bs [120,116,98])]):=by
 refine Al mixed Tryz.func151 tr151 ?_;simp only[go_sem,seval,(show (([76,97,109]:By)==[115,111,114,116])=false by decide),(show (([76,97,109]:By)==[112,105])=false by decide),(show (([76,97,109]:By)==[108,97,109])=false by decide),(show (([76,97,109]:By)==[97,112,112])=false by decide),(show (([76,97,109]:By)==[115,105,103])=false by decide),(show (([76,97,109]:By)==[112,97,105,114])=false by decide),(show (([76,97,109]:By)==[102,115,116])=false by decide),(show (([76,97,109]:By)==[115,110,100])=false by decide),(show (([76,97,109]:By)==[101,113])=false by decide),(show (([76,97,109]:By)==[114,101,102,108])=false by decide),(show (([76,97,109]:By)==[116,114])=false by decide)];refine Aa Au8 ?_;simp only[go_sem,seval]
theorem Au4:Con 155 [.str (bs [65,112,112])] (.tup [.int .i64 15,.str (bs [116,116])]):=by
 refine Al mixed Tryz.func155 tr155 ?_;simp only[go_sem,seval,(show (([65,112,112]:By)==[80,105])=false by decide),(show (([65,112,112]:By)==[76,97,109])=false by decide),(show (([65,112,112]:By)==[65,112,112])=true by decide)]
theorem Auc:Con 151 [.str (bs [65,112,112])] (.tup [.int .i64 15,.str (bs [116,116])]):=by
 refine Al mixed Tryz.func151 tr151 ?_;simp only[go_sem,seval,(show (([65,112,112]:By)==[115,111,114,116])=false by decide),(show (([65,112,112]:By)==[112,105])=false by decide),(show (([65,112,112]:By)==[108,97,109])=false by decide),(show (([65,112,112]:By)==[97,112,112])=false by decide),(show (([65,112,112]:By)==[115,105,103])=false by decide),(show (([65,112,112]:By)==[112,97,105,114])=false by decide),(show (([65,112,112]:By)==[102,115,116])=false by decide),(show (([65,112,112]:By)==[115,110,100])=false by decide),(show (([65,112,112]:By)==[101,113])=false by decide),(show (([65,112,112]:By)==[114,101,102,108])=false by decide),(show (([65,112,112]:By)==[116,114])=false by decide)];refine Aa Au4 ?_;simp only[go_sem,seval]
theorem Avc:Con 155 [.str (bs [83,105,103])] (.tup [.int .i64 16,.str (bs [120,116,98])]):=by
 refine Al mixed Tryz.func155 tr155 ?_;simp only[go_sem,seval,(show (([83,105,103]:By)==[80,105])=false by decide),(show (([83,105,103]:By)==[76,97,109])=false by decide),(show (([83,105,103]:By)==[65,112,112])=false by decide),(show (([83,105,103]:By)==[83,105,103])=true by decide)]
theorem Auk:Con 151 [.str (bs [83,105,103])] (.tup [.int .i64 16,.str (bs [120,116,98])]):=by
 refine Al mixed Tryz.func151 tr151 ?_;simp only[go_sem,seval,(show (([83,105,103]:By)==[115,111,114,116])=false by decide),(show (([83,105,103]:By)==[112,105])=false by decide),(show (([83,105,103]:By)==[108,97,109])=false by decide),(show (([83,105,103]:By)==[97,112,112])=false by decide),(show (([83,105,103]:By)==[115,105,103])=false by decide),(show (([83,105,103]:By)==[112,97,105,114])=false by decide),(show (([83,105,103]:By)==[102,115,116])=false by decide),(show (([83,105,103]:By)==[115,110,100])=false by decide),(show (([83,105,103]:By)==[101,113])=false by decide),(show (([83,105,103]:By)==[114,101,102,108])=false by decide),(show (([83,105,103]:By)==[116,114])=false by decide)];refine Aa Avc ?_;simp only[go_sem,seval]
theorem Au9:Con 155 [.str (bs [80,97,105,114])] (.tup [.int .i64 17,.str (bs [120,116,98,116,116])]):=by
 refine Al mixed Tryz.func155 tr155 ?_;simp only[go_sem,seval,(show (([80,97,105,114]:By)==[80,105])=false by decide),(show (([80,97,105,114]:By)==[76,97,109])=false by decide),(show (([80,97,105,114]:By)==[65,112,112])=false by decide),(show (([80,97,105,114]:By)==[83,105,103])=false by decide),(show (([80,97,105,114]:By)==[80,97,105,114])=true by decide)]
theorem Auh:Con 151 [.str (bs [80,97,105,114])] (.tup [.int .i64 17,.str (bs [120,116,98,116,116])]):=by
 refine Al mixed Tryz.func151 tr151 ?_;simp only[go_sem,seval,(show (([80,97,105,114]:By)==[115,111,114,116])=false by decide),(show (([80,97,105,114]:By)==[112,105])=false by decide),(show (([80,97,105,114]:By)==[108,97,109])=false by decide),(show (([80,97,105,114]:By)==[97,112,112])=false by decide),(show (([80,97,105,114]:By)==[115,105,103])=false by decide),(show (([80,97,105,114]:By)==[112,97,105,114])=false by decide),(show (([80,97,105,114]:By)==[102,115,116])=false by decide),(show (([80,97,105,114]:By)==[115,110,100])=false by decide),(show (([80,97,105,114]:By)==[101,113])=false by decide),(show (([80,97,105,114]:By)==[114,101,102,108])=false by decide),(show (([80,97,105,114]:By)==[116,114])=false by decide)];refine Aa Au9 ?_;simp only[go_sem,seval]
theorem Au6:Con 155 [.str (bs [70,115,116])] (.tup [.int .i64 18,.str (bs [116])]):=by
 refine Al mixed Tryz.func155 tr155 ?_;simp only[go_sem,seval,(show (([70,115,116]:By)==[80,105])=false by decide),(show (([70,115,116]:By)==[76,97,109])=false by decide),(show (([70,115,116]:By)==[65,112,112])=false by decide),(show (([70,115,116]:By)==[83,105,103])=false by decide),(show (([70,115,116]:By)==[80,97,105,114])=false by decide),(show (([70,115,116]:By)==[70,115,116])=true by decide)]
theorem Aue:Con 151 [.str (bs [70,115,116])] (.tup [.int .i64 18,.str (bs [116])]):=by
 refine Al mixed Tryz.func151 tr151 ?_;simp only[go_sem,seval,(show (([70,115,116]:By)==[115,111,114,116])=false by decide),(show (([70,115,116]:By)==[112,105])=false by decide),(show (([70,115,116]:By)==[108,97,109])=false by decide),(show (([70,115,116]:By)==[97,112,112])=false by decide),(show (([70,115,116]:By)==[115,105,103])=false by decide),(show (([70,115,116]:By)==[112,97,105,114])=false by decide),(show (([70,115,116]:By)==[102,115,116])=false by decide),(show (([70,115,116]:By)==[115,110,100])=false by decide),(show (([70,115,116]:By)==[101,113])=false by decide),(show (([70,115,116]:By)==[114,101,102,108])=false by decide),(show (([70,115,116]:By)==[116,114])=false by decide)];refine Aa Au6 ?_;simp only[go_sem,seval]
theorem Avd:Con 155 [.str (bs [83,110,100])] (.tup [.int .i64 19,.str (bs [116])]):=by
 refine Al mixed Tryz.func155 tr155 ?_;simp only[go_sem,seval,(show (([83,110,100]:By)==[80,105])=false by decide),(show (([83,110,100]:By)==[76,97,109])=false by decide),(show (([83,110,100]:By)==[65,112,112])=false by decide),(show (([83,110,100]:By)==[83,105,103])=false by decide),(show (([83,110,100]:By)==[80,97,105,114])=false by decide),(show (([83,110,100]:By)==[70,115,116])=false by decide),(show (([83,110,100]:By)==[83,110,100])=true by decide)]
theorem Aul:Con 151 [.str (bs [83,110,100])] (.tup [.int .i64 19,.str (bs [116])]):=by
 refine Al mixed Tryz.func151 tr151 ?_;simp only[go_sem,seval,(show (([83,110,100]:By)==[115,111,114,116])=false by decide),(show (([83,110,100]:By)==[112,105])=false by decide),(show (([83,110,100]:By)==[108,97,109])=false by decide),(show (([83,110,100]:By)==[97,112,112])=false by decide),(show (([83,110,100]:By)==[115,105,103])=false by decide),(show (([83,110,100]:By)==[112,97,105,114])=false by decide),(show (([83,110,100]:By)==[102,115,116])=false by decide),(show (([83,110,100]:By)==[115,110,100])=false by decide),(show (([83,110,100]:By)==[101,113])=false by decide),(show (([83,110,100]:By)==[114,101,102,108])=false by decide),(show (([83,110,100]:By)==[116,114])=false by decide)];refine Aa Avd ?_;simp only[go_sem,seval]
theorem Au5:Con 155 [.str (bs [69,113])] (.tup [.int .i64 20,.str (bs [116,116,116])]):=by
 refine Al mixed Tryz.func155 tr155 ?_;simp only[go_sem,seval,(show (([69,113]:By)==[80,105])=false by decide),(show (([69,113]:By)==[76,97,109])=false by decide),(show (([69,113]:By)==[65,112,112])=false by decide),(show (([69,113]:By)==[83,105,103])=false by decide),(show (([69,113]:By)==[80,97,105,114])=false by decide),(show (([69,113]:By)==[70,115,116])=false by decide),(show (([69,113]:By)==[83,110,100])=false by decide),(show (([69,113]:By)==[69,113])=true by decide)]
theorem Aud:Con 151 [.str (bs [69,113])] (.tup [.int .i64 20,.str (bs [116,116,116])]):=by
 refine Al mixed Tryz.func151 tr151 ?_;simp only[go_sem,seval,(show (([69,113]:By)==[115,111,114,116])=false by decide),(show (([69,113]:By)==[112,105])=false by decide),(show (([69,113]:By)==[108,97,109])=false by decide),(show (([69,113]:By)==[97,112,112])=false by decide),(show (([69,113]:By)==[115,105,103])=false by decide),(show (([69,113]:By)==[112,97,105,114])=false by decide),(show (([69,113]:By)==[102,115,116])=false by decide),(show (([69,113]:By)==[115,110,100])=false by decide),(show (([69,113]:By)==[101,113])=false by decide),(show (([69,113]:By)==[114,101,102,108])=false by decide),(show (([69,113]:By)==[116,114])=false by decide)];refine Aa Au5 ?_;simp only[go_sem,seval]
theorem Avb:Con 155 [.str (bs [82,101,102,108])] (.tup [.int .i64 21,.str (bs [116,116])]):=by
 refine Al mixed Tryz.func155 tr155 ?_;simp only[go_sem,seval,(show (([82,101,102,108]:By)==[80,105])=false by decide),(show (([82,101,102,108]:By)==[76,97,109])=false by decide),(show (([82,101,102,108]:By)==[65,112,112])=false by decide),(show (([82,101,102,108]:By)==[83,105,103])=false by decide),(show (([82,101,102,108]:By)==[80,97,105,114])=false by decide),(show (([82,101,102,108]:By)==[70,115,116])=false by decide),(show (([82,101,102,108]:By)==[83,110,100])=false by decide),(show (([82,101,102,108]:By)==[69,113])=false by decide),(show (([82,101,102,108]:By)==[82,101,102,108])=true by decide)]
theorem Auj:Con 151 [.str (bs [82,101,102,108])] (.tup [.int .i64 21,.str (bs [116,116])]):=by
 refine Al mixed Tryz.func151 tr151 ?_;simp only[go_sem,seval,(show (([82,101,102,108]:By)==[115,111,114,116])=false by decide),(show (([82,101,102,108]:By)==[112,105])=false by decide),(show (([82,101,102,108]:By)==[108,97,109])=false by decide),(show (([82,101,102,108]:By)==[97,112,112])=false by decide),(show (([82,101,102,108]:By)==[115,105,103])=false by decide),(show (([82,101,102,108]:By)==[112,97,105,114])=false by decide),(show (([82,101,102,108]:By)==[102,115,116])=false by decide),(show (([82,101,102,108]:By)==[115,110,100])=false by decide),(show (([82,101,102,108]:By)==[101,113])=false by decide),(show (([82,101,102,108]:By)==[114,101,102,108])=false by decide),(show (([82,101,102,108]:By)==[116,114])=false by decide)];refine Aa Avb ?_;simp only[go_sem,seval]
theorem Au7:Con 155 [.str (bs [74])] (.tup [.int .i64 22,.str (bs [116,116,121,101,80,116,116,116])]):=by
 refine Al mixed Tryz.func155 tr155 ?_;simp only[go_sem,seval,(show (([74]:By)==[80,105])=false by decide),(show (([74]:By)==[76,97,109])=false by decide),(show (([74]:By)==[65,112,112])=false by decide),(show (([74]:By)==[83,105,103])=false by decide),(show (([74]:By)==[80,97,105,114])=false by decide),(show (([74]:By)==[70,115,116])=false by decide),(show (([74]:By)==[83,110,100])=false by decide),(show (([74]:By)==[69,113])=false by decide),(show (([74]:By)==[82,101,102,108])=false by decide),(show (([74]:By)==[74])=true by decide)]
theorem Auf:Con 151 [.str (bs [74])] (.tup [.int .i64 22,.str (bs [116,116,121,101,80,116,116,116])]):=by
 refine Al mixed Tryz.func151 tr151 ?_;simp only[go_sem,seval,(show (([74]:By)==[115,111,114,116])=false by decide),(show (([74]:By)==[112,105])=false by decide),(show (([74]:By)==[108,97,109])=false by decide),(show (([74]:By)==[97,112,112])=false by decide),(show (([74]:By)==[115,105,103])=false by decide),(show (([74]:By)==[112,97,105,114])=false by decide),(show (([74]:By)==[102,115,116])=false by decide),(show (([74]:By)==[115,110,100])=false by decide),(show (([74]:By)==[101,113])=false by decide),(show (([74]:By)==[114,101,102,108])=false by decide),(show (([74]:By)==[116,114])=false by decide)];refine Aa Au7 ?_;simp only[go_sem,seval]
theorem Ave:Con 155 [.str (bs [117,115,101])] (.tup [.int .i64 23,.str (bs [83,76,77])]):=by
 refine Al mixed Tryz.func155 tr155 ?_;simp only[go_sem,seval,(show (([117,115,101]:By)==[80,105])=false by decide),(show (([117,115,101]:By)==[76,97,109])=false by decide),(show (([117,115,101]:By)==[65,112,112])=false by decide),(show (([117,115,101]:By)==[83,105,103])=false by decide),(show (([117,115,101]:By)==[80,97,105,114])=false by decide),(show (([117,115,101]:By)==[70,115,116])=false by decide),(show (([117,115,101]:By)==[83,110,100])=false by decide),(show (([117,115,101]:By)==[69,113])=false by decide),(show (([117,115,101]:By)==[82,101,102,108])=false by decide),(show (([117,115,101]:By)==[74])=false by decide),(show (([117,115,101]:By)==[117,115,101])=true by decide)]
theorem Aun:Con 151 [.str (bs [117,115,101])] (.tup [.int .i64 23,.str (bs [83,76,77])]):=by
 refine Al mixed Tryz.func151 tr151 ?_;simp only[go_sem,seval,(show (([117,115,101]:By)==[115,111,114,116])=false by decide),(show (([117,115,101]:By)==[112,105])=false by decide),(show (([117,115,101]:By)==[108,97,109])=false by decide),(show (([117,115,101]:By)==[97,112,112])=false by decide),(show (([117,115,101]:By)==[115,105,103])=false by decide),(show (([117,115,101]:By)==[112,97,105,114])=false by decide),(show (([117,115,101]:By)==[102,115,116])=false by decide),(show (([117,115,101]:By)==[115,110,100])=false by decide),(show (([117,115,101]:By)==[101,113])=false by decide),(show (([117,115,101]:By)==[114,101,102,108])=false by decide),(show (([117,115,101]:By)==[116,114])=false by decide)];refine Aa Ave ?_;simp only[go_sem,seval]
theorem Add{w:By}{k:Nat}{s:By}:∀{l:List (By×Nat×By)},Rj w l=some (k,s)->(w,k,s)∈l:=by
 intro l
 induction l with
 |nil=>intro h;cases h
 |cons a l ih=>
  intro h;obtain⟨v,k',s'⟩:=a;rw[Rj] at h;split at h
  ·rename_i hv;cases h;have:v=w:=by simpa using hv
   subst this;exact List.mem_cons_self
  ·exact List.mem_cons_of_mem _ (ih h)
theorem Aub{w:By}{k:Nat}{s:By}(h:Rj w Rk=some (k,s)):Con 151 [.str (bs w)] (.tup [.int .i64 k,.str (bs s)]):=by
 have:=Add h;simp only[Rk,List.mem_cons,List.not_mem_nil,or_false,Prod.mk.injEq] at this;rcases this with⟨rfl,rfl,rfl⟩|⟨rfl,rfl,rfl⟩|⟨rfl,rfl,rfl⟩|⟨rfl,rfl,rfl⟩|⟨rfl,rfl,rfl⟩|⟨rfl,rfl,rfl⟩|⟨rfl,rfl,rfl⟩|⟨rfl,rfl,rfl⟩|⟨rfl,rfl,rfl⟩|⟨rfl,rfl,rfl⟩|⟨rfl,rfl,rfl⟩|⟨rfl,rfl,rfl⟩
 ·exact Aum
 ·exact Aui
 ·exact Aug
 ·exact Auc
 ·exact Auk
 ·exact Auh
 ·exact Aue
 ·exact Aul
 ·exact Aud
 ·exact Auj
 ·exact Auf
 ·exact Aun
theorem Tj{w:By}:∀{l:List By} {n:Nat},Jz w l=some n->l[n]?=some w/\∀m,m<n->∃v,l[m]?=some v/\(v==w)=false:=by
 intro l
 induction l with
 |nil=>intro n h;cases h
 |cons a l ih=>
  intro n h;rw[Jz] at h;split at h
  ·rename_i hv;cases h;have:a=w:=by simpa using hv
   subst this;exact⟨rfl,fun m hm=>by omega⟩
  ·rename_i hv;cases hq:Jz w l with
   |none=>rw[hq] at h;cases h
   |some q=>
    rw[hq,Option.map_some,q_b] at h;subst h;obtain⟨h1,h2⟩:=ih hq;refine⟨by simpa using h1,fun m hm=>?_⟩;cases m with
    |zero=>exact⟨a,rfl,by simpa using hv⟩
    |succ m=>
     obtain⟨v,h3,h4⟩:=h2 m (by omega);exact⟨v,by simpa using h3,h4⟩
def wdR(w:By):List SV:=[.str (bs w)]
theorem Auo:Con 161 [] (.dsl 1 (symsL.map wdR)):=by
 refine Al mixed Tryz.func161 tr161 ?_;simp only[go_sem,seval,symsL,q_h,q_i,wdR]
theorem Awe{w:By}{n:Nat}(h:Jz w symsL=some n):Con 158 [.str (bs w)] (.int .i64 ((n+1:Nat):Int)):=by
 obtain⟨h1,h2⟩:=Tj h;have Ah:symsL.length=21:=rfl;have hn:=(List.getElem?_eq_some_iff.1 h1).1;refine Al mixed Tryz.func158 tr158 ?_;simp only[go_sem,seval];refine Aa Auo ?_;have Bt:∀(m:Nat) v,symsL[m]?=some v->(symsL.map wdR)[m]?.getD []=[.str (bs v)]:=fun m v hv=>by rw[List.getElem?_map,hv];rfl
 generalize symsL=l at *
 simp only[go_sem,seval,q_g,Ah];intros;refine Jj (fun x=>⟨(.str (bs w)::.J::.int .i64 0::.J::.J::.dsl 1 (l.map wdR)::.int .i64 21::.int .i64 x::.J::.J::.J::.J::.J::.J::.J::.J::.J::.J::[]),[]⟩) n (fun x hx=>?_) ?_
 ·have e0:(0:Int)<=(x:Int):=by omega
  have e1:(x:Int)<21:=by omega
  have e2:x<21:=by omega
  by_cases Ab:x<n
  ·obtain⟨v,h3,h4⟩:=h2 x Ab;simp only[go_sem,seval,decide_eq_true e1,e0,e1,e2,q_g,Ah,Bt x v h3,h4,w64 (show fit ((x:Int)+1) by unfold fit;omega)];refine⟨Ab,?_⟩;exact Au (by simp[An])
  ·have:x=n:=by omega
   subst this;simp only[go_sem,seval,decide_eq_true e1,e0,e1,e2,q_g,Ah,Bt x w h1,beq_self_eq_true,w64 (show fit ((x:Int)+1) by unfold fit;omega)];rfl
 ·exact Au (by simp[An])
def nmV(ns:List By):SV:=.dsl 1 (ns.reverse.map wdR)
theorem A3a{L:List Tok}{k e i j n:Nat}{ns:List By}{G:GV}{t:Tok}{r:List Tok}(h:L.drop k=t::r)(hL:L.length<1000000000000)(hn:Jz t.w ns=some n)(Eb:ns.length<1000000) :
  Ad 149 (rdR L k e (nmV ns) i j::G) [.gp 0 0] (.ret (.agg true (tv (vT n)))) (rdR L (k+1) e (nmV ns) i j::G):=by
 obtain⟨a1,a2,a3,a4,a5,a6,a7,a8,a9,a10⟩:=Dk h;have a6:=a6 hL;have a7:=a7 hL;have a10:=a10 hL;obtain⟨h1,h2⟩:=Tj hn;have Ab:=(List.getElem?_eq_some_iff.1 h1).1;have Bt:∀(m:Nat) v,ns[m]?=some v->(ns.reverse.map wdR)[ns.length-1-m]?.getD []=[.str (bs v)]:=fun m v hv=>by
  have hm:=(List.getElem?_eq_some_iff.1 hv).1;rw[List.getElem?_map,List.getElem?_reverse (by omega),show ns.length-1-(ns.length-1-m)=m by omega,hv];rfl
 have Ah:(ns.reverse.map wdR).length=ns.length:=by simp
 refine (Aq (out:=.ret (.agg true [.int .i64 2,.int .i64 n,.int .i64 0,.int .i64 0,.nils])) mixed Tryz.func149 tr149 ?_).weaken (Mq _ _ _ _);unfold rdR nmV;have Nl:(ns.length<=140737488355328)=True:=by simp;omega
 have ew:IntKind.i64.wrap ((ns.length:Int)-1)=(ns.length:Int)-1-(0:Nat):=by rw[w64 (by unfold fit;omega)];omega
 generalize ns.reverse.map wdR=R at *
 simp only[go_sem,seval,Ah,Nl,forall_const];rw[ew];refine Jj (fun x=>⟨(.gp 0 0::.J::.ref 1 0 0 0::.int .i64 ((ns.length:Int)-1-x)::.J::.J::.J::.J::.J::.J::.J::.J::.J::.J::.J::.J::.J::.J::.J::.J::.J::.J::.J::.J::.J::.J::.J::.J::.J::.J::.J::.J::.J::.J::.J::.J::.J::.J::.J::.J::.J::.J::.J::.J::.J::.J::.J::.J::.J::.J::.J::.J::.J::.J::.J::.J::[]),[gOb ([.dsl 3 (L.map Fd),.int .i64 k,.int .i64 e,.dsl 1 R,.int .i64 i,.int .i64 j,.bool false,.int .i64 0]::G),⟨true,5,[[.int .i64 0,.int .i64 0,.int .i64 0,.int .i64 0,.nils]],0,0,true⟩]⟩) n (fun x hx=>?_) ?_
 ·have hq:ns.length-1-x<ns.length:=by omega
  have eI:(ns.length:Int)-1-x=((ns.length-1-x:Nat):Int):=by omega
  have e0:(0:Int)<=((ns.length-1-x:Nat):Int):=by omega
  have e1:((ns.length-1-x:Nat):Int)<(ns.length:Int):=by omega
  have eg:((ns.length-1-x:Nat):Int) >= 0:=e0;rw[eI]
  by_cases Yv:x<n
  ·obtain⟨v,h3,h4⟩:=h2 x Yv;simp only[go_sem,seval,a1,a2,a3,a4,a8,a9,a10,forall_const,q_g,decide_eq_true eg,e0,e1,hq,Ah,Nl,Bt x v h3,h4,w64 (show fit (((ns.length-1-x:Nat):Int)-1) by unfold fit;omega)];refine⟨Yv,?_⟩;rw[show ((ns.length-1-x:Nat):Int)-1=(ns.length:Int)-1-((x+1:Nat):Int) by omega];exact Au (by simp[An])
  ·have:x=n:=by omega
   subst this;simp only[go_sem,seval,a1,a2,a3,a4,a6,a8,a9,a10,forall_const,q_g,decide_eq_true eg,e0,e1,hq,Ah,Nl,Bt x t.w h1,beq_self_eq_true,w64 (show fit ((ns.length:Int)-1) by unfold fit;omega),show (ns.length:Int)-1-((ns.length-1-x:Nat):Int)=(x:Int) by omega,w64 (show fit (x:Int) by unfold fit;omega)]
 ·exact Au (by simp[An])
mutual
def LT.tm(i j:Nat):LT->Tm
 |.var n=>vT n
 |.nd k a b n l=>.mk k (a.ev i j:Nat) (b.ev i j:Nat) n (LT.tms i j l)
def LT.tms(i j:Nat):List LT->List Tm
 |[]=>[]
 |t::l=>LT.tm i j t::LT.tms i j l
end
theorem Af7(i j:Nat):∀l:List LT,LT.tms i j l=l.map (LT.tm i j):=by
 intro l
 induction l with
 |nil=>rfl
 |cons t l ih=>rw[LT.tms,ih];rfl
section
variable{T:TF}{ns:List By}{k:Nat}{c:UInt8}{x y:Acc}{r r':List Tok}{s:By}{p:LT×List Tok}
theorem Bp(h:Fl T ns k (c::s) x r=some p):∃y r1,Ky T ns k c x r=some (y,r1)/\Fl T ns k s y r1=some p:=by
 rw[Fl] at h;split at h
 ·rename_i y r1 he;exact⟨y,r1,he,h⟩
 ·cases h
theorem Hs(h:Fl T ns k [] x r=some p):∃z r',r=z::r'/\z.k=2/\p=(.nd k x.a x.b x.n x.l,r'):=by
 rw[Fl] at h;obtain⟨q,r'⟩:=p;obtain⟨z,h1,h2,h3⟩:=Oh h;exact⟨z,r',h1,h2,by rw[h3]⟩
theorem Pb(h:Ky T ns k c x r=some (y,r'))(hc:c=120\/c=121\/c=101):∃u,r=u::r'/\u.k=3/\y={ x with bd:=u.w::x.bd }:=by
 unfold Ky at h;have e:c.toNat≠76/\c.toNat≠77/\c.toNat≠83/\c.toNat≠116/\¬(c.toNat=98\/c.toNat=80):=by rcases hc with rfl|rfl|rfl<;>decide
 rw[if_neg e.1,if_neg e.2.1,if_neg e.2.2.1,if_neg e.2.2.2.1,if_neg e.2.2.2.2] at h
 match r,h with
 |[],h=>cases h
 |⟨k,w,q⟩::r1,h=>
  dsimp only at h;split at h
  ·rename_i hk;cases h;exact⟨_,rfl,hk,rfl⟩
  ·cases h
theorem Dt(h:Ky T ns k 116 x r=some (y,r')):∃a,T ns r=some (a,r')/\y={ x with l:=x.l++[a] }:=by
 unfold Ky at h;rw[if_neg (by decide),if_neg (by decide),if_neg (by decide),if_pos (by decide)] at h;cases ht:T ns r with
 |none=>rw[ht] at h;cases h
 |some q=>
  rw[ht] at h;cases h;exact⟨_,rfl,rfl⟩
theorem Sg(h:Ky T ns k c x r=some (y,r'))(hc:c=98\/c=80):ns≠[]/\∃a,T (x.bd++ns) r=some (a,r')/\y={ x with l:=x.l++[a] }:=by
 unfold Ky at h;have e:c.toNat≠76/\c.toNat≠77/\c.toNat≠83/\c.toNat≠116/\(c.toNat=98\/c.toNat=80):=by rcases hc with rfl|rfl<;>decide
 rw[if_neg e.1,if_neg e.2.1,if_neg e.2.2.1,if_neg e.2.2.2.1,if_pos e.2.2.2.2] at h;split at h
 ·cases h
 ·rename_i hn;cases ht:T (x.bd++ns) r with
  |none=>rw[ht] at h;cases h
  |some q=>
   rw[ht] at h;cases h;exact⟨by simpa using hn,_,rfl,rfl⟩
theorem Aaz(h:Ky T ns k 76 x r=some (y,r')):∃a,Pc r=some (a,r')/\y={ x with a:=a }:=by
 unfold Ky at h;rw[if_pos (by decide)] at h;cases ht:Pc r with
 |none=>rw[ht] at h;cases h
 |some q=>
  rw[ht] at h;cases h;exact⟨_,rfl,rfl⟩
theorem Ali(h:Ky T ns k 77 x r=some (y,r')):∃b r1 l,Pc r=some (b,r1)/\Mr T ns (arN x.n) r1=some (l,r')/\y={ x with b:=b,l:=l }:=by
 unfold Ky at h;rw[if_neg (by decide),if_pos (by decide)] at h;cases ht:Pc r with
 |none=>rw[ht] at h;cases h
 |some q=>
  rw[ht] at h;dsimp only at h;cases hm:Mr T ns (arN x.n) q.2 with
  |none=>rw[hm] at h;cases h
  |some l=>
   rw[hm] at h;cases h;exact⟨_,_,_,rfl,hm,rfl⟩
theorem Alj(h:Ky T ns k 83 x r=some (y,r')):∃u n,r=u::r'/\u.k=3/\Jz u.w symsL=some n/\y={ x with n:=n+1 }:=by
 unfold Ky at h;rw[if_neg (by decide),if_neg (by decide),if_pos (by decide)] at h
 match r,h with
 |[],h=>cases h
 |⟨k,w,q⟩::r1,h=>
  dsimp only at h;split at h
  ·rename_i hk;cases hn:Jz w symsL with
   |none=>rw[hn] at h;cases h
   |some n=>
    rw[hn] at h;cases h;exact⟨_,_,rfl,hk,hn,rfl⟩
  ·cases h
end
def NmP(nm:SV)(ns:List By):Prop:=(nm=.nils/\ns=[])\/nm=nmV ns
def NG(G:GV):Prop:=∀r∈G,∀x∈r,NoG x
theorem NG.nil:NG []:=fun r hr=>by cases hr
theorem NG.app{G D:GV}(h:NG G)(k:NG D):NG (G++D):=fun r hr=>(List.mem_append.1 hr).elim (h r) (k r)
theorem NG.cons{r:List SV}{D:GV}(h:∀x∈r,NoG x)(k:NG D):NG (r::D):=fun q hq=>by
 rcases List.mem_cons.1 hq with rfl|hq
 ·exact h
 ·exact k q hq
theorem A8z(l:List By):NoG (.dsl 1 (l.map wdR)):=.dsl _ _ (fun x hx=>by
 obtain⟨r,hr,hx⟩:=List.mem_flatten.1 hx;obtain⟨w,_,rfl⟩:=List.mem_map.1 hr;simp only[wdR,List.mem_singleton] at hx;subst hx;exact .str _)
theorem NmP.noG{nm:SV}{ns:List By}(h:NmP nm ns):NoG nm:=by
 rcases h with⟨rfl,_⟩|rfl
 ·exact .nils
 ·exact A8z _
theorem A8w{L:List Tok}{k e i j:Nat}{nm:SV}(h:NoG nm):∀x∈rdR L k e nm i j,NoG x:=by
 intro x hx;simp only[rdR,List.mem_cons,List.not_mem_nil,or_false] at hx;rcases hx with rfl|rfl|rfl|rfl|rfl|rfl|rfl|rfl
 ·refine .dsl _ _ (fun x hx=>?_);obtain⟨r,hr,hx⟩:=List.mem_flatten.1 hx;obtain⟨t,_,rfl⟩:=List.mem_map.1 hr;simp only[Fd,List.mem_cons,List.not_mem_nil,or_false] at hx;rcases hx with rfl|rfl|rfl
  ·exact .int _ _
  ·exact .str _
  ·exact .int _ _
 ·exact .int _ _
 ·exact .int _ _
 ·exact h
 ·exact .int _ _
 ·exact .int _ _
 ·exact .bool _
 ·exact .int _ _
def TC(T:TF)(b:Nat):Prop:=∀(ns:List By) (ts r:List Tok) (lt:LT),T ns ts=some (lt,r)->ns.length+b<1000000->∀(L:List Tok) (k e i j:Nat) (nm:SV) (G:GV) (want:Int),L.length<1000000000000->i<1000->j<1000->(want=0\/want=2)->NmP nm ns->NG G->L.drop k=ts ->
 ∃k' Δ,L.drop k'=r/\NG Δ/\Ad 139 (rdR L k e nm i j::G) [.gp 0 0,.int .i64 want] (.ret (.agg true (tv (lt.tm i j)))) (rdR L k' e nm i j::(G++Δ))
def LC(k:Nat)(s:By)(L:List Tok)(k0 e i j:Nat)(nm:SV)(G:GV)(lt:LT)(r:List Tok):Prop:=
 ∃k' Δ,L.drop k'=r/\NG Δ/\Ad 152 (rdR L k0 e nm i j::G) [.gp 0 0,.int .i64 k,.str (bs s)] (.ret (.agg true (tv (lt.tm i j)))) (rdR L k' e nm i j::(G++Δ))
end Go.Proofs.YtdpigpopcbjkmaaGreatDoor.Abs
