import Derived.Laws.FloatArith
import Derived.Test.YtdpigpopcbjkmaaGreatDoorProg
import Derived.Test.YtdpigpopcbjkmaaGreatDoorChecked
import Derived.WalkKit
import Derived.WalkLawsBesides
import Derived.Test.YtdpigpopcbjkmaaGreatDoorYUd
import Derived.Test.YtdpigpopcbjkmaaGreatDoorYMk
import Derived.Test.YtdpigpopcbjkmaaGreatDoorYTh
import Derived.Test.YtdpigpopcbjkmaaGreatDoorYPt
import Derived.Test.YtdpigpopcbjkmaaGreatDoorYTs
import Derived.Test.YtdpigpopcbjkmaaGreatDoorYRw
set_option linter.unusedSimpArgs false
set_option linter.unusedVariables false
set_option maxRecDepth 20000
set_option maxHeartbeats 4000000
namespace Go.Proofs.YtdpigpopcbjkmaaGreatDoor.Flt
def rung(x:Nat):Nat:=x % 9223372036854775808
def isNeg(x:Nat):Bool:=x / 9223372036854775808 % 2==1
def skey(x:Nat):Int:=if isNeg x then -(rung x:Int) else (rung x:Int)
def nanB(x:Nat):Bool:=decide (9218868437227405312<rung x)
def ord(x y:Nat):Option Ordering:=FloatKind.f64.format.order x y
def V(r:Nat):Nat:=if r<4503599627370496 then r else (4503599627370496+r % 4503599627370496)*2 ^ (r / 4503599627370496-1)
theorem Agn(r:Nat):V r<V (r+1):=by
 unfold V
 by_cases h:r+1<4503599627370496
 ·rw[if_pos (by omega),if_pos h];omega
 ·by_cases h2:r<4503599627370496
  ·rw[if_pos h2,if_neg h];have:r=4503599627370495:=by omega
   subst this;decide
  ·rw[if_neg h2,if_neg h]
   by_cases h3:r % 4503599627370496=4503599627370495
   ·have e1:(r+1) % 4503599627370496=0:=by omega
    have e2:(r+1) / 4503599627370496-1=(r / 4503599627370496-1)+1:=by omega
    rw[e1,e2,h3,Nat.pow_succ];have:0<2 ^ (r / 4503599627370496-1):=Nat.two_pow_pos _;omega
   ·have e1:(r+1) % 4503599627370496=r % 4503599627370496+1:=by omega
    have e2:(r+1) / 4503599627370496=r / 4503599627370496:=by omega
    rw[e1,e2];exact Nat.mul_lt_mul_of_pos_right (by omega) (Nat.two_pow_pos _)
theorem V_lt{r s:Nat}(h:r<s):V r<V s:=by
 induction s with
 |zero=>omega
 |succ s ih=>
  rcases Nat.lt_or_ge r s with h1|h1
  ·exact Nat.lt_trans (ih h1) (Agn s)
  ·have:r=s:=by omega
   subst this;exact Agn r
theorem Atp(a b:Int)(r s:Nat)(x y:Int)
  (hx:(a=V r/\x=r)\/(a=-(V r:Int)/\x=-(r:Int))) (hy:(b=V s/\y=s)\/(b=-(V s:Int)/\y=-(s:Int))):compare a b=compare x y:=by
 have V0:V 0=0:=by decide
 have pos:∀t:Nat,0<t->0<V t:=fun t ht=>by have:=V_lt ht;omega
 have hr:=pos r;have hs:=pos s;have Ov:r<s->V r<V s:=V_lt;have hsr:s<r->V s<V r:=V_lt;have e0:r=0->V r=0:=by rintro rfl;exact V0
 have f0:s=0->V s=0:=by rintro rfl;exact V0
 have ee:r=s->V r=V s:=by rintro rfl;rfl
 generalize V r=p at *
 generalize V s=q at *
 have key:(a<b↔x<y)/\(a=b↔x=y):=by
  rcases hx with⟨h1,h2⟩|⟨h1,h2⟩<;>rcases hy with⟨h3,h4⟩|⟨h3,h4⟩<;>constructor<;>omega
 simp only[compare,compareOfLessAndEq,key.1,key.2]
def E(r:Nat):Nat:=if r<4503599627370496 then 0 else r / 4503599627370496-1
def M(r:Nat):Nat:=if r<4503599627370496 then r else 4503599627370496+r % 4503599627370496
theorem V_eq(r:Nat):V r=M r*2 ^ E r:=by
 unfold V M E;split<;>simp
theorem Zr(x:Nat)(h:rung x<9218868437227405312):FloatKind.f64.format.read x=.number (isNeg x) (M (rung x)) (-1074+(E (rung x):Int)):=by
 show Ieee.Format.read Ieee.double x=_;unfold Ieee.Format.read;have e1:Ieee.double.signWeight=9223372036854775808:=by decide
 have e2:Ieee.double.binade=4503599627370496:=by decide
 have e3:Ieee.double.infRung=9218868437227405312:=by decide
 have e4:Ieee.double.leastPlace=-1074:=by decide
 simp only[e1,e2,e3,e4];unfold rung at h;unfold M E rung isNeg
 by_cases h1:x % 9223372036854775808<4503599627370496
 ·simp[h1]
 ·simp[h1,h]
theorem Abk(x:Nat)(h:rung x=9218868437227405312):FloatKind.f64.format.read x=.infinity (isNeg x):=by
 show Ieee.Format.read Ieee.double x=_;unfold Ieee.Format.read;have e1:Ieee.double.signWeight=9223372036854775808:=by decide
 have e2:Ieee.double.binade=4503599627370496:=by decide
 have e3:Ieee.double.infRung=9218868437227405312:=by decide
 simp only[e1,e2,e3];unfold rung at h;rw[h];simp[isNeg]
theorem Ano(x:Nat)(h:9218868437227405312<rung x):FloatKind.f64.format.read x=.nan (isNeg x) (rung x-9218868437227405312):=by
 show Ieee.Format.read Ieee.double x=_;unfold Ieee.Format.read;have e1:Ieee.double.signWeight=9223372036854775808:=by decide
 have e2:Ieee.double.binade=4503599627370496:=by decide
 have e3:Ieee.double.infRung=9218868437227405312:=by decide
 simp only[e1,e2,e3];unfold rung at h |-;rw[if_neg (by omega),if_neg (by omega),if_neg (by omega)];rfl
theorem cmp_lt{a b:Int}(h:a<b):compare a b=.lt:=by simp[compare,compareOfLessAndEq,h]
theorem cmp_gt{a b:Int}(h:b<a):compare a b=.gt:=by
 have h1:¬a<b:=by omega
 have h2:¬a=b:=by omega
 simp[compare,compareOfLessAndEq,h1,h2]
theorem cmp_eq{a b:Int}(h:a=b):compare a b=.eq:=by simp[compare,compareOfLessAndEq,h]
theorem Atq(a b:Int)(k:Nat)(hk:0<k):compare (a*k) (b*k)=compare a b:=by
 have hk':(0:Int)<k:=by omega
 have h1:a*k<b*k↔a<b:=⟨fun h=>Int.lt_of_mul_lt_mul_right h (by omega),fun h=>Int.mul_lt_mul_of_pos_right h hk'⟩
 have h2:a*k=b*k↔a=b:=⟨fun h=>Int.eq_of_mul_eq_mul_right (by omega) h,fun h=>by rw[h]⟩
 simp only[compare,compareOfLessAndEq,h1,h2]
theorem Anz(s:Bool)(m u k:Nat):Ieee.signed s m u*((2 ^ k:Nat):Int)=Ieee.signed s m (u+k):=by
 unfold Ieee.signed;have:((m <<< u:Nat):Int)*((2 ^ k:Nat):Int)=((m <<< (u+k):Nat):Int):=by
  rw[Nat.shiftLeft_eq,Nat.shiftLeft_eq,Nat.pow_add,<-Nat.mul_assoc];exact (Int.natCast_mul _ _).symm
 cases s<;>simp only[Bool.false_eq_true,if_false,if_true]
 ·exact this
 ·rw[Int.neg_mul,this]
theorem Any(x:Nat):Ieee.signed (isNeg x) (M (rung x)) (E (rung x))=if isNeg x then -(V (rung x):Int) else (V (rung x):Int):=by
 unfold Ieee.signed;rw[Nat.shiftLeft_eq,<-V_eq]
theorem ord_skey(x y:Nat)(hx:nanB x=false)(hy:nanB y=false):ord x y=some (compare (skey x) (skey y)):=by
 have Bz:rung x<=9218868437227405312:=by simpa [nanB] using hx
 have hy':rung y<=9218868437227405312:=by simpa [nanB] using hy
 unfold ord Ieee.Format.order;rcases Nat.lt_or_ge (rung x) 9218868437227405312 with h1|h1<;>rcases Nat.lt_or_ge (rung y) 9218868437227405312 with h2|h2
 ·rw[Zr x h1,Zr y h2];simp only[Ieee.Datum.order];congr 1;have hb:∀e f:Nat,(-1074+(e:Int)-min (-1074+(e:Int)) (-1074+(f:Int))).toNat+min e f=e:=by intro e f;omega
  have Ek:∀e f:Nat,(-1074+(f:Int)-min (-1074+(e:Int)) (-1074+(f:Int))).toNat+min e f=f:=by intro e f;omega
  rw[<-Atq _ _ (2 ^ min (E (rung x)) (E (rung y))) (Nat.two_pow_pos _),Anz,Anz,hb,Ek,Any,Any];refine Atp _ _ (rung x) (rung y) _ _ ?_ ?_
  ·unfold skey;cases isNeg x<;>simp
  ·unfold skey;cases isNeg y<;>simp
 ·have Ir:rung y=9218868437227405312:=by omega
  rw[Zr x h1,Abk y Ir];simp only[Ieee.Datum.order];congr 1;unfold skey;rw[Ir];cases isNeg y<;>cases isNeg x<;>first|exact (cmp_lt (by simp;omega)).symm|exact (cmp_gt (by simp;omega)).symm
 ·have Nh:rung x=9218868437227405312:=by omega
  rw[Zr y h2,Abk x Nh];simp only[Ieee.Datum.order];congr 1;unfold skey;rw[Nh];cases isNeg x<;>cases isNeg y<;>first|exact (cmp_lt (by simp;omega)).symm|exact (cmp_gt (by simp;omega)).symm
 ·have Nh:rung x=9218868437227405312:=by omega
  have Ir:rung y=9218868437227405312:=by omega
  rw[Abk x Nh,Abk y Ir];simp only[Ieee.Datum.order];congr 1;unfold skey;rw[Nh,Ir];cases isNeg x<;>cases isNeg y<;>decide
theorem ord_nan_left(x y:Nat)(hx:nanB x=true):ord x y=none:=by
 have Bz:9218868437227405312<rung x:=by simpa [nanB] using hx
 unfold ord Ieee.Format.order;rw[Ano x Bz];rfl
theorem ord_nan_right(x y:Nat)(hy:nanB y=true):ord x y=none:=by
 have hy':9218868437227405312<rung y:=by simpa [nanB] using hy
 unfold ord Ieee.Format.order;rw[Ano y hy'];cases FloatKind.f64.format.read x<;>rfl
end Go.Proofs.YtdpigpopcbjkmaaGreatDoor.Flt
namespace Go.Proofs.YtdpigpopcbjkmaaGreatDoor.Flt
open Go Go.RowKit
def rg(m:Nat):Nat:=((m.log2:Int)-52+1074).toNat*4503599627370496+Ieee.Toward.even.cut false (m <<< (0-((m.log2:Int)-52)).toNat) ((m.log2:Int)-52-0).toNat
def R(m:Nat):Nat:=if m=0 then 0 else min (rg m) 9218868437227405312
theorem Awd(s t:Bool)(n d:Nat):Ieee.Toward.even.cut s n d=Ieee.Toward.even.cut t n d:=rfl
theorem A8i(neg:Bool)(m:Nat):Ieee.double.nearest neg m 0=Ieee.double.word neg (R m):=by
 unfold Ieee.Format.nearest R
 by_cases h:m=0
 ·rw[if_pos h,if_pos h]
 ·rw[if_neg h,if_neg h];have e2:Ieee.double.binade=4503599627370496:=by decide
  have e3:Ieee.double.infRung=9218868437227405312:=by decide
  have e4:Ieee.double.leastPlace=-1074:=by decide
  have e5:(Ieee.double.fractionBits:Int)=52:=by decide
  simp only[e2,e3,e4,e5];have el:max ((0:Int)+(m.log2:Int)-52) (-1074)=(m.log2:Int)-52:=by omega
  rw[el];unfold rg;rw[show (m.log2:Int)-52 - -1074=(m.log2:Int)-52+1074 by omega,Awd neg false]
theorem Awg(n:Nat):Ieee.Toward.even.cut false n 0=n:=by
 unfold Ieee.Toward.cut;simp[Nat.mod_one]
theorem R_le(m:Nat):R m<=9218868437227405312:=by
 unfold R;split<;>omega
theorem Agj(neg:Bool){r:Nat}(h:r<=9218868437227405312):rung (Ieee.double.word neg r)=r/\isNeg (Ieee.double.word neg r)=neg:=by
 have e1:Ieee.double.signWeight=9223372036854775808:=by decide
 unfold Ieee.Format.word rung isNeg;rw[e1];cases neg
 ·simp only[Bool.false_eq_true,if_false];refine⟨by omega,?_⟩;have:r / 9223372036854775808=0:=by omega
  rw[this];rfl
 ·simp only[if_true];refine⟨by omega,?_⟩;have:(9223372036854775808+r) / 9223372036854775808=1:=by omega
  rw[this];rfl
theorem Bh8(neg:Bool){r:Nat}(h:r<=9218868437227405312):nanB (Ieee.double.word neg r)=false:=by
 unfold nanB;rw[(Agj neg h).1];simpa using h
theorem Amq(n:Int):floatOfInt .f64 n=Ieee.double.word (n<0) (R n.natAbs):=A8i _ _
theorem ofInt_nan(n:Int):nanB (floatOfInt .f64 n)=false:=by rw[Amq];exact Bh8 _ (R_le _)
theorem ofInt_key(n:Int):skey (floatOfInt .f64 n)=if n<0 then -(R n.natAbs:Int) else (R n.natAbs:Int):=by
 rw[Amq];unfold skey;rw[(Agj _ (R_le _)).1,(Agj _ (R_le _)).2]
 by_cases h:n<0<;>simp[h]
end Go.Proofs.YtdpigpopcbjkmaaGreatDoor.Flt
namespace Go.Proofs.YtdpigpopcbjkmaaGreatDoor.Flt
def cc:Nat:=1074
def U:Nat:=2 ^ cc
theorem U_eq{x:Nat}(h:x=1074):2 ^ x=U:=by
 have:x=cc:=h;rw[this,U]
theorem U_pos:0<U:=Nat.two_pow_pos cc
theorem Awe(s:Bool)(n d:Nat):Ieee.Toward.zero.cut s n d=n / 2 ^ d:=by
 unfold Ieee.Toward.cut;simp only[Bool.toNat_false,Nat.add_zero,Nat.one_shiftLeft];rcases Nat.le_total d (n.log2+2) with h|h
 ·rw[Nat.min_eq_left h]
 ·rw[Nat.min_eq_right h];have h1:n<2 ^ (n.log2+2):=by
   rcases Nat.eq_zero_or_pos n with rfl|hn
   ·exact Nat.two_pow_pos _
   ·have:=Nat.lt_log2_self (n:=n);rw[Nat.pow_succ];omega
  have h2:n<2 ^ d:=Nat.lt_of_lt_of_le h1 (Nat.pow_le_pow_right (by decide) h);rw[Nat.div_eq_of_lt h1,Nat.div_eq_of_lt h2]
theorem toInt_pos(b:Nat)(h:rung b<9218868437227405312)(hn:isNeg b=false):(FloatKind.f64.decode b).toInt .zero=some ((V (rung b) / U:Nat):Int):=by
 rw[show FloatKind.f64.decode b=_ from Zr b h];unfold Ieee.Datum.toInt Ieee.Datum.integral;simp only[hn,Awe];unfold Ieee.signed;simp only[Bool.false_eq_true,if_false,Nat.shiftLeft_zero];congr 2;rw[V_eq,Nat.shiftLeft_eq];generalize M (rung b)=m;generalize E (rung b)=e;rcases Nat.le_total 1074 e with h1|h1
 ·rw[show (-(-1074+(e:Int))).toNat=0 by omega,show (-1074+(e:Int)).toNat=e-1074 by omega,Nat.pow_zero,Nat.div_one];have:2 ^ e=2 ^ (e-1074)*U:=by rw[<-U_eq (x:=cc) rfl,<-Nat.pow_add];congr 1;have:cc=1074:=rfl;omega
  rw[this,<-Nat.mul_assoc,Nat.mul_div_cancel _ U_pos]
 ·rw[show (-(-1074+(e:Int))).toNat=1074-e by omega,show (-1074+(e:Int)).toNat=0 by omega,Nat.pow_zero,Nat.mul_one];have:U=2 ^ (1074-e)*2 ^ e:=by rw[<-Nat.pow_add,U_eq (by omega)]
  rw[this,Nat.mul_div_mul_right _ _ (Nat.two_pow_pos e)]
theorem V_R(n:Nat)(h0:n≠0)(hn:n<9007199254740992):R n<9218868437227405312/\V (R n)=n*U:=by
 have hl:n.log2<=52:=by
  have:=(Nat.log2_lt h0 (k:=53)).2 (by omega);omega
 have h1:2 ^ n.log2<=n:=Nat.log2_self_le h0;have h2:n<2 ^ (n.log2+1):=Nat.lt_log2_self;have e52:(2:Nat) ^ 52=2 ^ n.log2*2 ^ (52-n.log2):=by rw[<-Nat.pow_add];congr 1;omega
 have hp:=Nat.two_pow_pos (52-n.log2);have lo:4503599627370496<=n*2 ^ (52-n.log2):=by
  have:=Nat.mul_le_mul_right (2 ^ (52-n.log2)) h1;rw[<-e52] at this;exact this
 have hi:n*2 ^ (52-n.log2)<9007199254740992:=by
  have:=Nat.mul_lt_mul_of_pos_right h2 hp;rw[Nat.pow_succ,Nat.mul_right_comm,<-e52] at this;exact this
 have hR:rg n=(n.log2+1022)*4503599627370496+n*2 ^ (52-n.log2):=by
  unfold rg;rw[show ((n.log2:Int)-52-0).toNat=0 by omega,Awg,Nat.shiftLeft_eq,show (0-((n.log2:Int)-52)).toNat=52-n.log2 by omega,show ((n.log2:Int)-52+1074).toNat=n.log2+1022 by omega]
 have hRR:R n=rg n:=by
  unfold R;rw[if_neg h0,hR];omega
 rw[hRR,hR];refine⟨by omega,?_⟩;have hd:((n.log2+1022)*4503599627370496+n*2 ^ (52-n.log2)) / 4503599627370496=n.log2+1023:=by omega
 have hm:((n.log2+1022)*4503599627370496+n*2 ^ (52-n.log2)) % 4503599627370496=n*2 ^ (52-n.log2)-4503599627370496:=by omega
 unfold V;rw[if_neg (by omega),hd,hm,show 4503599627370496+(n*2 ^ (52-n.log2)-4503599627370496)=n*2 ^ (52-n.log2) by omega,Nat.mul_assoc,<-Nat.pow_add,U_eq (by omega)]
theorem V_le{r s:Nat}(h:r<=s):V r<=V s:=by
 rcases Nat.lt_or_ge r s with h1|h1
 ·exact Nat.le_of_lt (V_lt h1)
 ·rw[show r=s by omega];exact Nat.le_refl _
theorem le_cut{b n:Nat}(hb:nanB b=false)(h0:n≠0)(hn:n<9007199254740992)(h:skey (floatOfInt .f64 n)<=skey b):isNeg b=false/\n<=V (rung b) / U:=by
 obtain⟨h1,h2⟩:=V_R n h0 hn;have hk:=ofInt_key (n:Int);rw[if_neg (by omega),Int.natAbs_natCast] at hk;rw[hk] at h;have Cl:0<R n:=by
  rcases Nat.eq_zero_or_pos (R n) with e|e
  ·rw[e] at h2;have:0<n*U:=Nat.mul_pos (by omega) U_pos;have h3:V 0=0:=by decide
   omega
  ·exact e
 unfold skey at h;cases Yn:isNeg b with
 |true=>rw[Yn,if_pos rfl] at h;omega
 |false=>
  rw[Yn,if_neg (by decide)] at h;refine⟨rfl,?_⟩;have hle:V (R n)<=V (rung b):=V_le (by omega);rw[h2] at hle;exact (Nat.le_div_iff_mul_le U_pos).2 hle
theorem cut_lt{b n:Nat}(h0:n≠0)(hn:n<9007199254740992)(hp:isNeg b=false)(h:skey b<skey (floatOfInt .f64 n)):rung b<9218868437227405312/\V (rung b) / U<n:=by
 obtain⟨h1,h2⟩:=V_R n h0 hn;have hk:=ofInt_key (n:Int);rw[if_neg (by omega),Int.natAbs_natCast] at hk;rw[hk] at h;unfold skey at h;rw[hp,if_neg (by decide)] at h;have Ab:=V_lt (show rung b<R n by omega);rw[h2] at Ab;exact⟨by omega,(Nat.div_lt_iff_lt_mul U_pos).2 Ab⟩
end Go.Proofs.YtdpigpopcbjkmaaGreatDoor.Flt
namespace Go.Proofs.YtdpigpopcbjkmaaGreatDoor.Nrm
open Go Go.RowKit
def within (n:Int)(m:Nat):Bool:=FloatKind.f64.format.order (floatOfInt .f64 n) m==some Ordering.lt || FloatKind.f64.format.order (floatOfInt .f64 n) m==some Ordering.eq
theorem Av7(b n:Nat)(h:(FloatKind.f64.decode b).toInt .zero=some (n:Int))(hn:n<9223372036854775808)(w:World):(convert 25 3 (.float .f64 b)).run Tryz.prog w=.ok (.int .i64 n) w:=by
 have hk:(convert 25 3 (.float .f64 b)).run Tryz.prog w=(Conv.floatToInt .f64 b .i64).run Tryz.prog w:=by kernel_rfl
 rw[hk];unfold Conv.floatToInt;rw[h];have h1:IntKind.i64.min<=(n:Int)/\(n:Int)<=IntKind.i64.max:=by
  have e1:IntKind.i64.min=-9223372036854775808:=by decide
  have e2:IntKind.i64.max=9223372036854775807:=by decide
  rw[e1,e2];omega
 simp only[h1,and_self,if_true];rfl
def big:Nat:=4741671816366391296
theorem A6y(b n:Nat)(h0:Flt.nanB b=false)(h1:¬Flt.skey b<=0)(h2:Flt.skey b<Flt.skey big)(h:(FloatKind.f64.decode b).toInt .zero=some (n:Int))(hn:n<9223372036854775808)(w:World) :
  Calls Tryz.prog 34 #[.float .f64 b] w fun e w'=>e=.returned (.int .i64 n)/\w'=w:=by
 have hc:=Av7 b n h hn;have o1:FloatKind.f64.format.order b b=some .eq:=by rw[show FloatKind.f64.format.order b b=Flt.ord b b from rfl,Flt.ord_skey b b h0 h0,Flt.cmp_eq rfl]
 have o2:FloatKind.f64.format.order b 0=some .gt:=by rw[show FloatKind.f64.format.order b 0=Flt.ord b 0 from rfl,Flt.ord_skey b 0 h0 (by decide),Flt.cmp_gt (by rw[show Flt.skey 0=0 by decide];omega)]
 have o3:FloatKind.f64.format.order b 4741671816366391296=some .lt:=by rw[show FloatKind.f64.format.order b 4741671816366391296=Flt.ord b big from rfl,Flt.ord_skey b _ h0 (by decide),Flt.cmp_lt h2]
 go_enter Tryz.func34,Tryz.ntmps34
 go_wp2
 all_goals
  go_ret
  exact⟨rfl,rfl⟩
theorem A6w(b:Nat)(h0:Flt.nanB b=true)(w:World):Calls Tryz.prog 34 #[.float .f64 b] w fun e w'=>e=.returned (.int .i64 (0:Nat))/\w'=w:=by
 have o1:FloatKind.f64.format.order b b=none:=by rw[show FloatKind.f64.format.order b b=Flt.ord b b from rfl,Flt.ord_nan_left b b h0]
 go_enter Tryz.func34,Tryz.ntmps34
 go_wp2
 all_goals
  go_ret
  exact⟨rfl,rfl⟩
theorem A6x(b:Nat)(h0:Flt.nanB b=false)(h1:Flt.skey b<=0)(w:World):Calls Tryz.prog 34 #[.float .f64 b] w fun e w'=>e=.returned (.int .i64 (0:Nat))/\w'=w:=by
 have o1:FloatKind.f64.format.order b b=some .eq:=by rw[show FloatKind.f64.format.order b b=Flt.ord b b from rfl,Flt.ord_skey b b h0 h0,Flt.cmp_eq rfl]
 rcases Int.lt_or_eq_of_le h1 with h1|h1
 ·have o2:FloatKind.f64.format.order b 0=some .lt:=by rw[show FloatKind.f64.format.order b 0=Flt.ord b 0 from rfl,Flt.ord_skey b 0 h0 (by decide),Flt.cmp_lt (by rw[show Flt.skey 0=0 by decide];omega)]
  go_enter Tryz.func34,Tryz.ntmps34
  go_wp2
  all_goals
   go_ret
   exact⟨rfl,rfl⟩
 ·have o2:FloatKind.f64.format.order b 0=some .eq:=by rw[show FloatKind.f64.format.order b 0=Flt.ord b 0 from rfl,Flt.ord_skey b 0 h0 (by decide),Flt.cmp_eq (by rw[show Flt.skey 0=0 by decide];omega)]
  go_enter Tryz.func34,Tryz.ntmps34
  go_wp2
  all_goals
   go_ret
   exact⟨rfl,rfl⟩
theorem A6v(b:Nat)(h0:Flt.nanB b=false)(h1:Flt.skey big<=Flt.skey b)(w:World):Calls Tryz.prog 34 #[.float .f64 b] w fun e w'=>e=.returned (.int .i64 (1000000000:Nat))/\w'=w:=by
 have o1:FloatKind.f64.format.order b b=some .eq:=by rw[show FloatKind.f64.format.order b b=Flt.ord b b from rfl,Flt.ord_skey b b h0 h0,Flt.cmp_eq rfl]
 have hb:(0:Int)<Flt.skey big:=by decide
 have o2:FloatKind.f64.format.order b 0=some .gt:=by rw[show FloatKind.f64.format.order b 0=Flt.ord b 0 from rfl,Flt.ord_skey b 0 h0 (by decide),Flt.cmp_gt (by rw[show Flt.skey 0=0 by decide];omega)]
 rcases Int.lt_or_eq_of_le h1 with h1|h1
 ·have o3:FloatKind.f64.format.order b 4741671816366391296=some .gt:=by rw[show FloatKind.f64.format.order b 4741671816366391296=Flt.ord b big from rfl,Flt.ord_skey b _ h0 (by decide),Flt.cmp_gt h1]
  go_enter Tryz.func34,Tryz.ntmps34
  go_wp2
  all_goals
   go_ret
   exact⟨rfl,rfl⟩
 ·have o3:FloatKind.f64.format.order b 4741671816366391296=some .eq:=by rw[show FloatKind.f64.format.order b 4741671816366391296=Flt.ord b big from rfl,Flt.ord_skey b _ h0 (by decide),Flt.cmp_eq h1.symm]
  go_enter Tryz.func34,Tryz.ntmps34
  go_wp2
  all_goals
   go_ret
   exact⟨rfl,rfl⟩
theorem Agi{n:Int}{b:Nat}(h:within n b=true):Flt.nanB b=false/\Flt.skey (floatOfInt .f64 n)<=Flt.skey b:=by
 have hn:=Flt.ofInt_nan n;cases hb:Flt.nanB b with
 |true=>
  have:FloatKind.f64.format.order (floatOfInt .f64 n) b=none:=Flt.ord_nan_right _ b hb;simp[within,this] at h
 |false=>
  refine⟨rfl,?_⟩;have ho:FloatKind.f64.format.order (floatOfInt .f64 n) b=some (compare (Flt.skey (floatOfInt .f64 n)) (Flt.skey b)):=Flt.ord_skey _ b hn hb;rcases Int.lt_trichotomy (Flt.skey (floatOfInt .f64 n)) (Flt.skey b) with h1|h1|h1
  ·omega
  ·omega
  ·rw[Flt.cmp_gt h1] at ho;simp[within,ho] at h
theorem limit_all(b:Nat):∃L:Nat,L<=1000000000/\(∀w:World,Calls Tryz.prog 34 #[.float .f64 b] w fun e w'=>e=.returned (.int .i64 L)/\w'=w)/\∀n:Nat,n<=1000000000->within n b=true->n<=L:=by
 have Nm:big=floatOfInt .f64 (1000000000:Nat):=by decide +kernel
 cases h0:Flt.nanB b with
 |true=>exact⟨0,by omega,A6w b h0,fun n _ h=>by rw[(Agi h).1] at h0;cases h0⟩
 |false=>
  by_cases h1:Flt.skey b<=0
  ·refine⟨0,by omega,A6x b h0 h1,fun n hn h=>?_⟩
   by_cases hz:n=0
   ·omega
   ·have hle:=(Agi h).2;have:=Flt.le_cut h0 hz (by omega) hle;obtain⟨k1,k2⟩:=Flt.V_R n hz (by omega);have hk:=Flt.ofInt_key (n:Int);rw[if_neg (by omega),Int.natAbs_natCast] at hk;have Cl:Flt.R n=0:=by omega
    rw[Cl] at k2;have:0<n*Flt.U:=Nat.mul_pos (by omega) Flt.U_pos;have h3:Flt.V 0=0:=by decide
    omega
  ·by_cases h2:Flt.skey b<Flt.skey big
   ·have Yn:Flt.isNeg b=false:=by
     cases h:Flt.isNeg b with
     |false=>rfl
     |true=>unfold Flt.skey at h1;rw[h,if_pos rfl] at h1;omega
    rw[Nm] at h2;obtain⟨k1,k2⟩:=Flt.cut_lt (n:=1000000000) (by omega) (by omega) Yn h2;rw[<-Nm] at h2;have k3:=Flt.toInt_pos b k1 Yn;have k4:∀n:Nat,n<=1000000000->within n b=true->n<=Flt.V (Flt.rung b) / Flt.U:=fun n hn h=>by
     by_cases hz:n=0
     ·rw[hz];exact Nat.zero_le _
     ·exact (Flt.le_cut h0 hz (by omega) (Agi h).2).2
    generalize Flt.V (Flt.rung b) / Flt.U=q at k2 k3 k4;exact⟨q,by omega,A6y b q h0 h1 h2 k3 (by omega),k4⟩
   ·exact⟨1000000000,by omega,A6v b h0 (by omega),fun n hn _=>hn⟩
end Go.Proofs.YtdpigpopcbjkmaaGreatDoor.Nrm
namespace Go.Proofs.YtdpigpopcbjkmaaGreatDoor.Abs
open Go Go.RowKit Go.Proofs.YtdpigpopcbjkmaaGreatDoor
theorem Aui{P:Program}{f:Nat}{args:List SV}{r:SV}{v:Value}(hr:∀m,Rep m v r)(h:∀(m:Mem) (w:World) (vs:List Value),vs.length=args.length->(∀(j:Nat) v x,vs[j]?=some v->args[j]?=some x->Rep m v x) ->
  Calls P f vs.toArray w fun e w'=>e=.returned v/\w'=w):Contract P f args r:=by
 intro m w vs hm hl hp;refine (h m w vs hl hp).mono ?_;rintro e w' ⟨rfl,rfl⟩;exact⟨_,m,rfl,hr m,⟨.refl m,rfl⟩,fun _ _ _=>rfl,hm,rfl,rfl,rfl,Nat.le_refl _,fun _ _=>rfl⟩
theorem Ahu(b:Nat):∃L:Nat,L<=1000000000/\Con 34 [.float .f64 b] (.int .i64 L)/\∀n:Nat,n<=1000000000->Nrm.within n b=true->n<=L:=by
 obtain⟨L,h1,h2,h3⟩:=Nrm.limit_all b;refine⟨L,h1,Aui (fun m=>.int _ _) (fun m w vs hl hr=>?_),h3⟩
 match vs,hl with
 |[v],_=>
  have h0:=hr 0 v _ rfl rfl;cases h0;exact h2 w
def zrT:List SV:=[.int .i64 0,.int .i64 0,.int .i64 0,.int .i64 0,.nils]
def rR(L:Nat)(done:List Tm):GV:=done.map tv++List.replicate (L-done.length) zrT
theorem Bdm{L:Nat}{done:List Tm}(h:done.length<=L):(rR L done).length=L:=by
 unfold rR;simp;omega
theorem Bdn{L:Nat}{done:List Tm}(h:done.length<L)(r:Tm):(rR L done).set done.length (tv r)=rR L (done++[r]):=by
 unfold rR;obtain⟨d,hd⟩:∃d,L-done.length=d+1:=⟨L-done.length-1,by omega⟩
 have e:L-(done++[r]).length=d:=by simp;omega
 rw[hd,e,List.replicate_succ,List.set_append_right _ _ (by simp)];simp
theorem Bdl{rs:List Tm}{L:Nat}(h:rs.length=L):rR L rs=rs.map tv:=by
 unfold rR;rw[h,Nat.sub_self];simp
theorem Ank{L:Nat}:rR L []=List.replicate L [.int .i64 0,.int .i64 0,.int .i64 0,.int .i64 0,.nils]:=by simp[rR,zrT]
def rS(m:Nat)(e:List Nat)(own deep:Int)(k i' j n:Int)(l:List Tm)(i:Nat)(b:SV)(G:GV)(done:List Tm):St:=
 ⟨(.gp m 0::.J::Aw e::.int .i64 own::.int .i64 deep::.J::.ref 1 0 0 0::.J::.J::.J::.ref 2 0 0 0::.J::.osl 3 0 0 l.length::.J::.J::.J::.J::.J::.J::.J::.J::.J::.J::.J::.J::.J::.J::.J::.J::.J::.J::.J::.J::.J::.J::.J::.J::.J::.J::.J::.J::.J::.J::.J::.J::.J::.J::.J::.J::.J::.J::.J::.J::.J::.J::.J::.J::.J::.J::.J::.dsl 5 (l.map tv)::.int .i64 l.length::.int .i64 i::b::.J::.J::.J::.J::.J::.J::.J::.J::.J::.J::.J::.J::.J::.J::.J::.J::.J::.J::.J::.J::.J::[]),[gOb G,⟨true,5,[[.int .i64 k,.int .i64 i',.int .i64 j,.int .i64 n,.dsl 5 (l.map tv)]],0,0,true⟩,⟨true,5,[[.int .i64 0,.int .i64 0,.int .i64 0,.int .i64 0,.nils]],0,0,true⟩,⟨false,5,rR l.length done,0,0,true⟩]⟩
section
variable{m:Nat}{e:List Nat}{own deep k i' j n:Int}{l:List Tm}{X:SV->GV->Prop}{Q:AE->St->Prop}
theorem Afr{q:Nat}(Ag:l.length<=100)(Ft:∀p,fit (own+(bnd k p:Nat))){G G2:GV}{out:HOut}{done:List Tm}(hp:done.length<l.length)
  (hq:Ad 66 G [.gp m 0,.agg true (tv l[done.length]),Aw e,.int .i64 (own+(bnd k done.length:Nat)),.int .i64 deep] out G2)
  (ho:(∃r,out=.ret (.agg true (tv r))/\vcI (Av Tryz.prog X) a66_39 Q q (rS m e own deep k i' j n l (done.length+1) .J G2 (done++[r])))\/∃u,out=.pan u/\X u G2) :
  vcI (Av Tryz.prog X) a66_39 Q (q+1) (rS m e own deep k i' j n l done.length .J G done):=by
 have e0:(0:Int)<=(done.length:Int):=by omega
 have e1:(done.length:Int)<(l.length:Int):=by omega
 have hw:=w64 (Ft done.length);have Iz:IntKind.i64.wrap ((done.length:Int)+1)=((done.length+1:Nat):Int):=by rw[w64 (by unfold fit;omega)];omega
 have Tp:=Acv k done.length;have hg:(l.map tv)[done.length]?.getD []=tv l[done.length]:=by rw[List.getElem?_map,q_f hp];rfl
 have hz:=Ae l[done.length];have hrl:=Bdm (L:=l.length) (done:=done) (by omega);have Ov:=Bdn hp;refine Aj ?_;simp only[rS];simp only[go_sem,seval,e0,e1,hp,hg,hz,decide_eq_true e1,q_g];refine Aa Tp ?_;simp only[go_sem,seval,hw,hz];rcases ho with⟨r,rfl,this⟩|⟨u,rfl,hx⟩
 ·have Qo:=Ae r;refine Ac hq ?_;simp only[rS] at this;simp only[go_sem,seval,Iz,Qo,hrl,hp,e0,e1,Ov] at this |-;exact Cp (Dq 4 (by simp[An]) (by simp) (by simp only[List.forall_mem_cons,Ag8];simp[Ba]) (by simp[Ba,gOb])) this
 ·exact Cn hq trivial hx
theorem Beo{G:GV}{rs:List Tm}(hq:Q (.exit 0) (rS m e own deep k i' j n l l.length (.bool false) G rs)) :
  vcI (Av Tryz.prog X) a66_39 Q 1 (rS m e own deep k i' j n l l.length .J G rs):=by
 refine Aj ?_;simp only[rS] at hq |-;simp only[go_sem,seval,decide_eq_false (show ¬((l.length:Nat):Int)<l.length by omega)];exact hq
end
inductive RwR(m:Nat)(e:List Nat)(own deep k:Int):Nat->List Tm->GV->(List Tm ⊕ SV)->GV->Prop
 |nil {p:Nat} {G:GV}:RwR m e own deep k p [] G (.inl []) G
 |pan {p:Nat} {G G1:GV} {t:Tm} {l:List Tm} {u:SV} (h:Ad 66 G [.gp m 0,.agg true (tv t),Aw e,.int .i64 (own+(bnd k p:Nat)),.int .i64 deep] (.pan u) G1):RwR m e own deep k p (t::l) G (.inr u) G1
 |cons {p:Nat} {G G1 G2:GV} {t r:Tm} {l rs:List Tm} (h:Ad 66 G [.gp m 0,.agg true (tv t),Aw e,.int .i64 (own+(bnd k p:Nat)),.int .i64 deep] (.ret (.agg true (tv r))) G1) (hr:RwR m e own deep k (p+1) l G1 (.inl rs) G2):RwR m e own deep k p (t::l) G (.inl (r::rs)) G2
 |late {p:Nat} {G G1 G2:GV} {t r:Tm} {l:List Tm} {u:SV} (h:Ad 66 G [.gp m 0,.agg true (tv t),Aw e,.int .i64 (own+(bnd k p:Nat)),.int .i64 deep] (.ret (.agg true (tv r))) G1) (hr:RwR m e own deep k (p+1) l G1 (.inr u) G2):RwR m e own deep k p (t::l) G (.inr u) G2
theorem RwR.len{m:Nat}{e:List Nat}{own deep k:Int}{p:Nat}{l:List Tm}{G G':GV}{out:List Tm ⊕ SV}(h:RwR m e own deep k p l G out G'):∀rs,out=.inl rs->rs.length=l.length:=by
 induction h with
 |nil=>intro rs e;cases e;rfl
 |pan=>intro rs e;cases e
 |cons _ _ ih=>intro rs e;cases e;simp only[List.length_cons];rw[ih _ rfl]
 |late=>intro rs e;cases e
theorem Ac5{l r:List Tm}{p:Nat}{t:Tm}(h:l.drop p=t::r):∃hp:p<l.length,l[p]=t/\l.drop (p+1)=r:=by
 have hp:p<l.length:=by
  rcases Nat.lt_or_ge p l.length with h1|h1
  ·exact h1
  ·rw[List.drop_eq_nil_iff.2 h1] at h;cases h
 rw[List.drop_eq_getElem_cons hp] at h;exact⟨hp,(List.cons.inj h).1,(List.cons.inj h).2⟩
section
variable{m:Nat}{e:List Nat}{own deep k i' j n:Int}{l:List Tm}{X:SV->GV->Prop}{Q:AE->St->Prop}
theorem Ans(Ag:l.length<=100)(Ft:∀p,fit (own+(bnd k p:Nat))){p:Nat}{l':List Tm}{G G':GV}{out:List Tm ⊕ SV}(h:RwR m e own deep k p l' G out G') :
  ∀done:List Tm,done.length=p->l.drop p=l'->p<=l.length->(∀rs,out=.inl rs->Q (.exit 0) (rS m e own deep k i' j n l l.length (.bool false) G' (done++rs)))->(∀u,out=.inr u->X u G') ->
  ∃q,vcI (Av Tryz.prog X) a66_39 Q q (rS m e own deep k i' j n l p .J G done):=by
 induction h with
 |@nil p G=>
  intro done hd hl hp hq _;have h1:l.length<=p:=List.drop_eq_nil_iff.1 hl;have h2:p=l.length:=by omega
  subst h2;have:=hq [] rfl;rw[List.append_nil] at this;exact⟨1,Beo this⟩
 |@pan p G G1 t l1 u h=>
  intro done hd hl hp hq hx;obtain⟨h1,h2,h3⟩:=Ac5 hl;subst hd;rw[<-h2] at h;exact⟨1,Afr (q:=0) Ag Ft h1 h (.inr ⟨u,rfl,hx u rfl⟩)⟩
 |@cons p G G1 G2 t r l1 rs h hr ih=>
  intro done hd hl hp hq hx;obtain⟨h1,h2,h3⟩:=Ac5 hl;subst hd;rw[<-h2] at h;obtain⟨q,hv⟩:=ih (done++[r]) (by simp) h3 (by omega) (fun rs' e=>by
   cases e;have:=hq (r::rs) rfl
   rwa [List.append_assoc,List.singleton_append]) (fun u e=>by cases e)
  exact⟨q+1,Afr Ag Ft h1 h (.inl ⟨r,rfl,hv⟩)⟩
 |@late p G G1 G2 t r l1 u h hr ih=>
  intro done hd hl hp hq hx;obtain⟨h1,h2,h3⟩:=Ac5 hl;subst hd;rw[<-h2] at h;obtain⟨q,hv⟩:=ih (done++[r]) (by simp) h3 (by omega) (fun rs' e=>by cases e) (fun u' e=>by cases e;exact hx _ rfl);exact⟨q+1,Afr Ag Ft h1 h (.inl ⟨r,rfl,hv⟩)⟩
theorem Bdr{G G1 G2:GV}{rs:List Tm}(h:Ad 58 G [.gp m 0] (.ret (.tup [])) G1)(hk:k≠2)(Ar:l≠[])(Ag:l.length<=100)(Ft:∀p,fit (own+(bnd k p:Nat)))(hr:RwR m e own deep k 0 l G1 (.inl rs) G2) :
  Ad 66 G [.gp m 0,.agg true (tv (.mk k i' j n l)),Aw e,.int .i64 own,.int .i64 deep] (.ret (.agg true (tv (.mk k i' j n rs)))) G2:=by
 obtain⟨out,ho⟩:∃out,out=HOut.ret (.agg true (tv (.mk k i' j n rs))):=⟨_,rfl⟩
 rw[<-ho];have De:(((l.length:Nat):Int)==0)=false:=beq_eq_false_iff_ne.2 (by have:=List.length_pos_iff.2 Ar;omega);have Kn:(l.length:Int)*56<=140737488355328:=by omega
 have Dw:(l.length:Int)<=140737488355328:=by omega
 rw[Ak];refine Ap mixed Tryz.func66 tr66 ?_;simp only[go_sem,seval];refine Ac h ?_;simp only[go_sem,seval,Ah hk,De,q_g,Kn,Dw];refine fun _ _=>⟨⟨by omega,by omega⟩,fun _=>?_⟩
 have hlr:=hr.len rs rfl;refine Exists.elim (Ans (l:=l) (i':=i') (j:=j) (n:=n) (X:=fun x G1=>out=.pan x/\G1=G2) (Q:=bk 0 (sq (Av Tryz.prog fun x G1=>out=.pan x/\G1=G2) a66_46 (rtG [.cell 10 true 5] out G2))) Ag Ft hr [] rfl (by simp) (Nat.zero_le _) (fun rs' e=>?_) (fun u e=>by cases e)) (fun q hn=>?_)
 ·cases e;subst ho;rw[List.nil_append];simp only[rS,Bdl hlr];rw[Ak];simp only[go_sem,seval];rw[List.take_of_length_le (by simp[hlr])]
 ·simp only[rS,Ank] at hn;simp only[go_sem,seval] at hn;exact Ca q (Cp (Au (by simp[An])) hn)
theorem Anl{G G1 G2:GV}{u:SV}(h:Ad 58 G [.gp m 0] (.ret (.tup [])) G1)(hk:k≠2)(Ar:l≠[])(Ag:l.length<=100)(Ft:∀p,fit (own+(bnd k p:Nat)))(hr:RwR m e own deep k 0 l G1 (.inr u) G2) :
  Ad 66 G [.gp m 0,.agg true (tv (.mk k i' j n l)),Aw e,.int .i64 own,.int .i64 deep] (.pan u) G2:=by
 have De:(((l.length:Nat):Int)==0)=false:=beq_eq_false_iff_ne.2 (by have:=List.length_pos_iff.2 Ar;omega);have Kn:(l.length:Int)*56<=140737488355328:=by omega
 have Dw:(l.length:Int)<=140737488355328:=by omega
 rw[Ak];refine Ap mixed Tryz.func66 tr66 ?_;simp only[go_sem,seval];refine Ac h ?_;simp only[go_sem,seval,Ah hk,De,q_g,Kn,Dw];refine fun _ _=>⟨⟨by omega,by omega⟩,fun _=>?_⟩
 refine Exists.elim (Ans (l:=l) (i':=i') (j:=j) (n:=n) (X:=fun x G1=>HOut.pan u=.pan x/\G1=G2) (Q:=bk 0 (sq (Av Tryz.prog fun x G1=>HOut.pan u=.pan x/\G1=G2) a66_46 (rtG [.cell 10 true 5] (.pan u) G2))) Ag Ft hr [] rfl (by simp) (Nat.zero_le _) (fun rs' e=>by cases e) (fun u' e=>by cases e;exact⟨rfl,rfl⟩)) (fun q hn=>?_);simp only[rS,Ank] at hn;simp only[go_sem,seval] at hn;exact Ca q (Cp (Au (by simp[An])) hn)
end
-- a66_46 a45_23 a45_28
def tS(m:Nat)(deep:Int)(v:Vl)(i:Nat)(b:SV)(G:GV):List Tm->St
 |[]=>⟨(.gp m 0::vlV v::.int .i64 deep::.J::.J::.J::.ref 1 0 0 0::.ref 2 0 0 0::.J::.J::.J::.J::.J::.J::.J::.J::.J::.J::.J::.J::.J::.J::.J::.J::.J::.J::.J::.J::.J::.J::.J::.J::.J::.J::.J::.J::.J::.J::.J::.J::.J::.J::Dp v.kids::.int .i64 v.kids.length::.int .i64 i::b::.J::.J::.J::.J::.J::.J::.J::.J::.J::.J::.J::.J::.J::.J::.J::.J::.J::.J::.J::.J::.J::.J::.J::.J::.J::.J::.J::.J::.J::.J::.J::.J::.J::.J::.J::.J::.J::.J::.J::[]),[gOb G,⟨true,5,[[.int .i64 0,.int .i64 0,.int .i64 0,.int .i64 0,.nils]],0,0,true⟩,⟨true,5,[[.int .i64 v.k,.int .i64 v.i,.int .i64 v.j,.int .i64 v.n,.nils]],0,0,true⟩]⟩
 |t::ts=>⟨(.gp m 0::vlV v::.int .i64 deep::.J::.J::.J::.ref 1 0 0 0::.ref 2 0 0 0::.J::.J::.J::.J::.J::.J::.J::.J::.J::.J::.J::.J::.J::.J::.J::.J::.J::.J::.J::.J::.J::.J::.J::.J::.J::.J::.J::.J::.J::.J::.J::.J::.J::.J::Dp v.kids::.int .i64 v.kids.length::.int .i64 i::b::.J::.J::.J::.J::.J::.J::.J::.J::.J::.J::.J::.J::.J::.J::.J::.J::.J::.J::.J::.J::.J::.J::.J::.J::.J::.J::.J::.J::.J::.J::.J::.J::.J::.J::.J::.J::.J::.J::.J::[]),[gOb G,⟨true,5,[[.int .i64 0,.int .i64 0,.int .i64 0,.int .i64 0,.nils]],0,0,true⟩,⟨true,5,[[.int .i64 v.k,.int .i64 v.i,.int .i64 v.j,.int .i64 v.n,.osl 4 ts.length 0 (ts.length+1)]],0,0,false⟩,⟨false,5,[tv t],0,0,true⟩,⟨false,5,(t::ts).map tv,ts.length,ts.length,true⟩]⟩
theorem tS_0{m:Nat}{deep:Int}{v:Vl}{i:Nat}{b:SV}{G:GV}:tS m deep v i b G []=⟨(.gp m 0::vlV v::.int .i64 deep::.J::.J::.J::.ref 1 0 0 0::.ref 2 0 0 0::.J::.J::.J::.J::.J::.J::.J::.J::.J::.J::.J::.J::.J::.J::.J::.J::.J::.J::.J::.J::.J::.J::.J::.J::.J::.J::.J::.J::.J::.J::.J::.J::.J::.J::Dp v.kids::.int .i64 v.kids.length::.int .i64 i::b::.J::.J::.J::.J::.J::.J::.J::.J::.J::.J::.J::.J::.J::.J::.J::.J::.J::.J::.J::.J::.J::.J::.J::.J::.J::.J::.J::.J::.J::.J::.J::.J::.J::.J::.J::.J::.J::.J::.J::[]),[gOb G,⟨true,5,[[.int .i64 0,.int .i64 0,.int .i64 0,.int .i64 0,.nils]],0,0,true⟩,⟨true,5,[[.int .i64 v.k,.int .i64 v.i,.int .i64 v.j,.int .i64 v.n,.nils]],0,0,true⟩]⟩:=q_z
theorem tS_1{m:Nat}{deep:Int}{v:Vl}{i:Nat}{b:SV}{G:GV}{t:Tm}{ts:List Tm}:tS m deep v i b G (t::ts)=⟨(.gp m 0::vlV v::.int .i64 deep::.J::.J::.J::.ref 1 0 0 0::.ref 2 0 0 0::.J::.J::.J::.J::.J::.J::.J::.J::.J::.J::.J::.J::.J::.J::.J::.J::.J::.J::.J::.J::.J::.J::.J::.J::.J::.J::.J::.J::.J::.J::.J::.J::.J::.J::Dp v.kids::.int .i64 v.kids.length::.int .i64 i::b::.J::.J::.J::.J::.J::.J::.J::.J::.J::.J::.J::.J::.J::.J::.J::.J::.J::.J::.J::.J::.J::.J::.J::.J::.J::.J::.J::.J::.J::.J::.J::.J::.J::.J::.J::.J::.J::.J::.J::[]),[gOb G,⟨true,5,[[.int .i64 0,.int .i64 0,.int .i64 0,.int .i64 0,.nils]],0,0,true⟩,⟨true,5,[[.int .i64 v.k,.int .i64 v.i,.int .i64 v.j,.int .i64 v.n,.osl 4 ts.length 0 (ts.length+1)]],0,0,false⟩,⟨false,5,[tv t],0,0,true⟩,⟨false,5,(t::ts).map tv,ts.length,ts.length,true⟩]⟩:=q_z
inductive ToK(m:Nat)(deep:Int)(b id:Nat)(G:GV)(out:HOut)(G':GV):Prop
 |no (hb:b=0) (h:Ad 67 G [.gp m 0,.gp id 0,.int .i64 deep] out G'):ToK m deep b id G out G'
 |yes (hb:0<b) {t:Tm} {e:List Nat} {w v:Option Vl} (hG:G[id]?=some (thR ⟨t,e,false,w,v⟩)) (h:Ad 66 G [.gp m 0,.agg true (tv t),Aw e,.int .i64 b,.int .i64 deep] out G'):ToK m deep b id G out G'
section
variable{m:Nat}{deep:Int}{v:Vl}{X:SV->GV->Prop}{Q:AE->St->Prop}
theorem Af7{n:Nat}(Ag:v.kids.length<=100){p i:Nat}{G G2:GV}{out:HOut}{done:List Tm}(hd:done.length<=100)(hi:v.kids[p]?=some i)
  (hq:ToK m deep (bnd v.k p) i G out G2)
  (ho:(∃r,out=.ret (.agg true (tv r))/\vcI (Av Tryz.prog X) a45_23 Q n (tS m deep v (p+1) .J G2 (done++[r])))\/∃u,out=.pan u/\X u G2) :
  vcI (Av Tryz.prog X) a45_23 Q (n+1) (tS m deep v p .J G done):=by
 obtain⟨k1,k2,k3,k4⟩:=Kg hi;have e0:(0:Int)<=(p:Int):=by omega
 have Iz:IntKind.i64.wrap ((p:Int)+1)=((p+1:Nat):Int):=by rw[w64 (by unfold fit;omega)];omega
 have Da:(p:Int)<v.kids.length:=k2;have Tp:=Acv v.k p;generalize bnd v.k p=b at *
 refine Aj ?_;cases done with
 |nil=>
  rw[tS_0];simp only[go_sem,seval,vlV,k1,k3,k4,Da,e0,q_g];refine Aa Tp ?_;cases hq with
  |no hb hq=>
   subst hb;simp only[go_sem,seval];rcases ho with⟨r,rfl,this⟩|⟨u,rfl,hx⟩
   ·refine Ac hq ?_;rw[List.nil_append,tS_1] at this;simp only[go_sem,seval,Iz,Da,k1,vlV] at this |-;exact Cp (Au (by simp[An])) this
   ·exact Cn hq trivial hx
  |yes hb hG hq=>
   have Ek:(b:Int) > 0:=by omega
   simp only[go_sem,seval,Ek,decide_eq_true Ek,hG,Zy,Zz,Aby,Abx];rcases ho with⟨r,rfl,this⟩|⟨u,rfl,hx⟩
   ·refine Ac hq ?_;rw[List.nil_append,tS_1] at this;simp only[go_sem,seval,Iz,Da,k1,vlV] at this |-;exact Cp (Au (by simp[An])) this
   ·exact Cn hq trivial hx
 |cons d ds=>
  rw[tS_1];simp only[List.length_cons] at hd;have Ya:(ds.length+1+1)*56<=140737488355328:=by omega
  have Yb:ds.length+1+1<=140737488355328:=by omega
  simp only[go_sem,seval,vlV,k1,k3,k4,Da,e0,q_g];refine Aa Tp ?_;cases hq with
  |no hb hq=>
   subst hb;simp only[go_sem,seval];rcases ho with⟨r,rfl,this⟩|⟨u,rfl,hx⟩
   ·refine Ac hq ?_;rw[List.cons_append,tS_1] at this;simp only[go_sem,seval,Iz,Da,k1,vlV,Ya,Yb,q_g,List.map_append] at this |-;exact Cp (Dq 5 (by simp[An]) (by simp) (by simp[Ba]) (by simp[Ba,gOb])) this
   ·exact Cn hq trivial hx
  |yes hb hG hq=>
   have Ek:(b:Int) > 0:=by omega
   simp only[go_sem,seval,Ek,decide_eq_true Ek,hG,Zy,Zz,Aby,Abx];rcases ho with⟨r,rfl,this⟩|⟨u,rfl,hx⟩
   ·refine Ac hq ?_;rw[List.cons_append,tS_1] at this;simp only[go_sem,seval,Iz,Da,k1,vlV,Ya,Yb,q_g,List.map_append] at this |-;exact Cp (Dq 5 (by simp[An]) (by simp) (by simp[Ba]) (by simp[Ba,gOb])) this
   ·exact Cn hq trivial hx
theorem Bgf{G:GV}{done:List Tm}(hq:Q (.exit 0) (tS m deep v v.kids.length (.bool false) G done)) :
  vcI (Av Tryz.prog X) a45_23 Q 1 (tS m deep v v.kids.length .J G done):=by
 refine Aj ?_;cases done with
 |nil=>
  rw[tS_0] at hq |-;simp only[go_sem,seval,decide_eq_false (show ¬((v.kids.length:Nat):Int)<v.kids.length by omega)];exact hq
 |cons d ds=>
  rw[tS_1] at hq |-;simp only[go_sem,seval,decide_eq_false (show ¬((v.kids.length:Nat):Int)<v.kids.length by omega)];simp only[go_sem,seval] at hq;exact hq
end
inductive ToR(m:Nat)(deep:Int)(k:Int):Nat->List Nat->GV->(List Tm ⊕ SV)->GV->Prop
 |nil {p:Nat} {G:GV}:ToR m deep k p [] G (.inl []) G
 |pan {p i:Nat} {G G1:GV} {l:List Nat} {u:SV} (h:ToK m deep (bnd k p) i G (.pan u) G1):ToR m deep k p (i::l) G (.inr u) G1
 |cons {p i:Nat} {G G1 G2:GV} {r:Tm} {l:List Nat} {rs:List Tm} (h:ToK m deep (bnd k p) i G (.ret (.agg true (tv r))) G1) (hr:ToR m deep k (p+1) l G1 (.inl rs) G2):ToR m deep k p (i::l) G (.inl (r::rs)) G2
 |late {p i:Nat} {G G1 G2:GV} {r:Tm} {l:List Nat} {u:SV} (h:ToK m deep (bnd k p) i G (.ret (.agg true (tv r))) G1) (hr:ToR m deep k (p+1) l G1 (.inr u) G2):ToR m deep k p (i::l) G (.inr u) G2
theorem ToR.len{m:Nat}{deep k:Int}{p:Nat}{l:List Nat}{G G':GV}{out:List Tm ⊕ SV}(h:ToR m deep k p l G out G'):∀rs,out=.inl rs->rs.length=l.length:=by
 induction h with
 |nil=>intro rs e;cases e;rfl
 |pan=>intro rs e;cases e
 |cons _ _ ih=>intro rs e;cases e;simp only[List.length_cons];rw[ih _ rfl]
 |late=>intro rs e;cases e
section
variable{m:Nat}{deep:Int}{v:Vl}{X:SV->GV->Prop}{Q:AE->St->Prop}
theorem Aok(Ag:v.kids.length<=100){p:Nat}{l':List Nat}{G G':GV}{out:List Tm ⊕ SV}(h:ToR m deep v.k p l' G out G') :
  ∀done:List Tm,done.length=p->v.kids.drop p=l'->p<=v.kids.length->(∀rs,out=.inl rs->Q (.exit 0) (tS m deep v v.kids.length (.bool false) G' (done++rs)))->(∀u,out=.inr u->X u G') ->
  ∃q,vcI (Av Tryz.prog X) a45_23 Q q (tS m deep v p .J G done):=by
 induction h with
 |@nil p G=>
  intro done hd hl hp hq _;have h1:v.kids.length<=p:=List.drop_eq_nil_iff.1 hl;have h2:p=v.kids.length:=by omega
  subst h2;have:=hq [] rfl;rw[List.append_nil] at this;exact⟨1,Bgf this⟩
 |@pan p i G G1 l1 u h=>
  intro done hd hl hp hq hx;obtain⟨h1,h2,h3⟩:=Vj hl;exact⟨1,Af7 (n:=0) Ag (by omega) h1 h (.inr ⟨u,rfl,hx u rfl⟩)⟩
 |@cons p i G G1 G2 r l1 rs h hr ih=>
  intro done hd hl hp hq hx;obtain⟨h1,h2,h3⟩:=Vj hl;obtain⟨q,hv⟩:=ih (done++[r]) (by simp;omega) h2 (by omega) (fun rs' e=>by
   cases e;have:=hq (r::rs) rfl
   rwa [List.append_assoc,List.singleton_append]) (fun u e=>by cases e)
  exact⟨q+1,Af7 Ag (by omega) h1 h (.inl ⟨r,rfl,hv⟩)⟩
 |@late p i G G1 G2 r l1 u h hr ih=>
  intro done hd hl hp hq hx;obtain⟨h1,h2,h3⟩:=Vj hl;obtain⟨q,hv⟩:=ih (done++[r]) (by simp;omega) h2 (by omega) (fun rs' e=>by cases e) (fun u' e=>by cases e;exact hx _ rfl);exact⟨q+1,Af7 Ag (by omega) h1 h (.inl ⟨r,rfl,hv⟩)⟩
variable{G G1:GV}{u:SV}
theorem Bgk{rs:List Tm}(hk:v.k≠2)(Ar:v.kids≠[])(Ag:v.kids.length<=100)(hr:ToR m deep v.k 0 v.kids G (.inl rs) G1)(Ov:rs≠[]) :
  Ad 45 G [.gp m 0,vlV v,.int .i64 deep] (.ret (.agg true (tv (.mk v.k v.i v.j v.n rs)))) G1:=by
 obtain⟨out,ho⟩:∃out,out=HOut.ret (.agg true (tv (.mk v.k v.i v.j v.n rs))):=⟨_,rfl⟩
 rw[<-ho];refine Ap mixed Tryz.func45 tr45 ?_;simp only[go_sem,seval,vlV,Ah hk,Lv Ar,q_g];refine fun _=>?_
 refine Exists.elim (Aok (X:=fun x G2=>out=.pan x/\G2=G1) (Q:=bk 0 (sq (Av Tryz.prog fun x G2=>out=.pan x/\G2=G1) a45_28 (rtG [.cell 6 true 5] out G1))) Ag hr [] rfl (by simp) (Nat.zero_le _) (fun rs' e=>?_) (fun u' e=>by cases e)) (fun n hn=>?_)
 ·cases e;subst ho;rw[List.nil_append];cases rs with
  |nil=>exact absurd rfl Ov
  |cons r ts=>
   rw[tS_1,Ak];simp only[go_sem,seval];rw[List.take_of_length_le (by simp)]
 rw[tS_0] at hn;simp only[go_sem,seval] at hn;exact Ca n (Cp (Au (by simp[An,vlV,Lv Ar])) hn)
theorem Aop(hk:v.k≠2)(Ar:v.kids≠[])(Ag:v.kids.length<=100)(hr:ToR m deep v.k 0 v.kids G (.inr u) G1) :
  Ad 45 G [.gp m 0,vlV v,.int .i64 deep] (.pan u) G1:=by
 refine Ap mixed Tryz.func45 tr45 ?_;simp only[go_sem,seval,vlV,Ah hk,Lv Ar,q_g];refine fun _=>?_
 refine Exists.elim (Aok (X:=fun x G2=>HOut.pan u=.pan x/\G2=G1) (Q:=bk 0 (sq (Av Tryz.prog fun x G2=>HOut.pan u=.pan x/\G2=G1) a45_28 (rtG [.cell 6 true 5] (.pan u) G1))) Ag hr [] rfl (by simp) (Nat.zero_le _) (fun rs' e=>by cases e) (fun u' e=>by cases e;exact⟨rfl,rfl⟩)) (fun n hn=>?_);rw[tS_0] at hn;simp only[go_sem,seval] at hn;exact Ca n (Cp (Au (by simp[An,vlV,Lv Ar])) hn)
end
abbrev FF:Nat->Int->Tm:=fun _ l=>fT l
def sv(σ:Nat->Tm)(b i:Nat):Tm:=if i<b then vT i else Eo b (σ (i-b))
def Zx(σ:Nat->Tm)(b:Nat)(t:Tm):Tm:=trT (sv σ) FF b t
theorem Al4(b i:Nat):Eo b (vT i)=vT (i+b):=by
 unfold Eo;rw[Cu];unfold lfv;rw[if_neg (by omega)]
def shf(k:Nat)(i:Nat):Tm:=vT (i+k)
theorem An8(k:Nat):sv (shf k)=lfv k:=by
 funext b i;unfold sv lfv shf
 by_cases h:i<b
 ·rw[if_pos h,if_pos h]
 ·rw[if_neg h,if_neg h,Al4];congr 1;omega
def Ana(u:Tm):Nat->Tm
 |0=>u
 |i+1=>vT i
theorem Bfl(u:Tm):sv (Ana u)=ptv u:=by
 funext b i;unfold sv ptv
 by_cases h:i<b
 ·rw[if_pos h,if_pos h]
 ·rw[if_neg h,if_neg h]
  by_cases h':i=b
  ·subst h';rw[if_pos rfl,Nat.sub_self];rfl
  ·rw[if_neg h'];obtain⟨q,rfl⟩:∃q,i=b+(q+1):=⟨i-b-1,by omega⟩
   rw[show b+(q+1)-b=q+1 by omega];show Eo b (vT q)=_;rw[Al4];congr 1;omega
def Agz(l:List Tm)(i:Nat):Tm:=l.getD i (vT 0)
theorem Al6(k:Nat)(t:Tm):Eo k t=Zx (shf k) 0 t:=by unfold Zx;rw[An8];rfl
theorem Anf(u t:Tm):Im u t=Zx (Ana u) 0 t:=by unfold Zx;rw[Bfl];rfl
theorem Ag0(l:List Tm)(t:Tm):Ht l t=Zx (Agz l) 0 t:=rfl
theorem Al8(σ:Nat->Tm)(b c:Nat)(u:Tm):trT (sv σ) FF (c+b) (Eo c u)=Eo c (trT (sv σ) FF b u):=by
 have h1:=My (v1:=lfv c) (f1:=FF) (v2:=sv σ) (f2:=FF) (v:=fun d i=>if i<d then vT i else if i<d+b then vT (i+c) else Eo (d+b+c) (σ (i-d-b))) (f:=FF) 0 (c+b) (fun d i=>?_) (fun _ _=>He _ _) u 0
 ·have h2:=My (v1:=sv σ) (f1:=FF) (v2:=lfv c) (f2:=FF) (v:=fun d i=>if i<d then vT i else if i<d+b then vT (i+c) else Eo (d+b+c) (σ (i-d-b))) (f:=FF) b 0 (fun d i=>?_) (fun _ _=>He _ _) u 0
  ·simp only[Nat.add_zero,Nat.zero_add] at h1 h2;exact h1.trans h2.symm
  ·rw[Nat.add_zero];unfold sv
   by_cases h:i<d
   ·rw[if_pos (by omega),Cu,if_pos h];unfold lfv;rw[if_pos h]
   ·by_cases h':i<d+b
    ·rw[if_pos h',Cu,if_neg h,if_pos h'];unfold lfv;rw[if_neg h]
    ·rw[if_neg h',if_neg h,if_neg h',show i-(d+b)=i-d-b by omega];have:=My (v1:=lfv (d+b)) (f1:=FF) (v2:=lfv c) (f2:=FF) (v:=lfv (d+b+c)) (f:=FF) 0 d (fun e q=>?_) (fun _ _=>He _ _) (σ (i-d-b)) 0
     ·simpa [Eo] using this
     ·rw[Nat.add_zero];unfold lfv
      by_cases h:q<e
      ·rw[if_pos h,Cu,if_pos (by omega),if_pos h]
      ·rw[if_neg h,Cu,if_neg (by omega),if_neg h];congr 1;omega
 ·rw[Nat.add_zero];unfold lfv
  by_cases h:i<d
  ·rw[if_pos h,Cu,if_pos h];unfold sv;rw[if_pos (by omega)]
  ·rw[if_neg h,Cu,if_neg h];unfold sv
   by_cases h':i<d+b
   ·rw[if_pos (by omega),if_pos h']
   ·rw[if_neg (by omega),if_neg h',show d+(c+b)=d+b+c by omega,show i+c-(d+b+c)=i-d-b by omega]
theorem Bdc(u s:Tm)(c m:Nat):trT (ptv u) FF c (Eo (c+1+m) s)=Eo (c+m) s:=by
 have h1:=My (v1:=lfv (c+1+m)) (f1:=FF) (v2:=ptv u) (f2:=FF) (v:=lfv (c+m)) (f:=FF) 0 c (fun d i=>?_) (fun _ _=>He _ _) s 0
 ·simpa [Eo] using h1
 ·simp only[Nat.add_zero];unfold lfv
  by_cases h:i<d
  ·rw[if_pos h,Cu,if_pos h];unfold ptv;rw[if_pos (by omega)]
  ·rw[if_neg h,Cu,if_neg h];unfold ptv;rw[if_neg (by omega),if_neg (by omega)];congr 1;omega
theorem Bfh(σ:Nat->Tm)(b:Nat)(u a:Tm):trT (sv σ) FF b (Im u a)=Im (trT (sv σ) FF b u) (trT (sv σ) FF (b+1) a):=by
 have h1:=My (v1:=ptv u) (f1:=FF) (v2:=sv σ) (f2:=FF) (v:=fun d i=>if i<d then vT i else if i=d then Eo d (trT (sv σ) FF b u) else if i-1<d+b then vT (i-1) else Eo (d+b) (σ (i-1-d-b))) (f:=FF) 0 b (fun d i=>?_) (fun _ _=>He _ _) a 0
 ·have h2:=My (v1:=sv σ) (f1:=FF) (v2:=ptv (trT (sv σ) FF b u)) (f2:=FF) (v:=fun d i=>if i<d then vT i else if i=d then Eo d (trT (sv σ) FF b u) else if i-1<d+b then vT (i-1) else Eo (d+b) (σ (i-1-d-b))) (f:=FF) (b+1) 0 (fun d i=>?_) (fun _ _=>He _ _) a 0
  ·simp only[Nat.add_zero,Nat.zero_add] at h1 h2;exact h1.trans h2.symm
  ·rw[Nat.add_zero];unfold sv
   by_cases h:i<d
   ·rw[if_pos (by omega),Cu,if_pos h];unfold ptv;rw[if_pos h]
   ·by_cases h':i=d
    ·subst h';rw[if_pos (by omega),Cu,if_neg h,if_pos rfl];unfold ptv;rw[if_neg h,if_pos rfl]
    ·by_cases h3:i-1<d+b
     ·rw[if_pos (by omega),Cu,if_neg h,if_neg h',if_pos h3];unfold ptv;rw[if_neg h,if_neg h']
     ·rw[if_neg (by omega),if_neg h,if_neg h',if_neg h3,show d+(b+1)=d+1+b by omega,Bdc,show i-(d+1+b)=i-1-d-b by omega]
 ·rw[Nat.add_zero];unfold ptv
  by_cases h:i<d
  ·rw[if_pos h,Cu,if_pos h];unfold sv;rw[if_pos (by omega)]
  ·by_cases h':i=d
   ·subst h';rw[if_neg h,if_pos rfl,if_neg h,if_pos rfl];exact Al8 σ b i u
   ·rw[if_neg h,if_neg h',Cu,if_neg h,if_neg h'];unfold sv
    by_cases h3:i-1<d+b
    ·rw[if_pos h3,if_pos h3]
    ·rw[if_neg h3,if_neg h3,show i-1-(d+b)=i-1-d-b by omega]
theorem Bfg(σ:Nat->Tm)(b:Nat)(l:List Tm){t:Tm}(ht:Sf l.length t):trT (sv σ) FF b (Ht l t)=Ht (l.map (trT (sv σ) FF b)) t:=by
 have h1:=My (v1:=alv l) (f1:=FF) (v2:=sv σ) (f2:=FF) (v:=fun d i=>if i<d then vT i else Eo d (trT (sv σ) FF b (l.getD (i-d) (vT 0)))) (f:=FF) 0 b (fun d i=>?_) (fun _ _=>He _ _) t 0
 ·simp only[Nat.add_zero,Nat.zero_add] at h1;refine h1.trans (Aou ht (fun d i hi hd=>?_));unfold alv;split
  ·rfl
  ·have Ab:i-d<l.length:=by omega
   rw[List.getD_eq_getElem?_getD,q_f Ab,List.getD_eq_getElem?_getD,List.getElem?_map,q_f Ab];rfl
 ·rw[Nat.add_zero];unfold alv
  by_cases h:i<d
  ·rw[if_pos h,Cu,if_pos h];unfold sv;rw[if_pos (by omega)]
  ·rw[if_neg h,if_neg h];exact Al8 σ b d _
end Go.Proofs.YtdpigpopcbjkmaaGreatDoor.Abs
