import Derived.Laws.FloatArith
import Derived.Test.YtdpigpopcbjkmaaGreatDoorProg
import Derived.Test.YtdpigpopcbjkmaaGreatDoorChecked
import Derived.WalkKit
import Derived.WalkLawsBesides
import Derived.Test.YtdpigpopcbjkmaaGreatDoorZUd
import Derived.Test.YtdpigpopcbjkmaaGreatDoorZMk
import Derived.Test.YtdpigpopcbjkmaaGreatDoorZTh
import Derived.Test.YtdpigpopcbjkmaaGreatDoorZPt
import Derived.Test.YtdpigpopcbjkmaaGreatDoorZTs
set_option linter.unusedSimpArgs false
set_option linter.unusedVariables false
set_option maxRecDepth 20000
set_option maxHeartbeats 4000000
namespace Go.Proofs.YtdpigpopcbjkmaaGreatDoor.Flt
def rung (x:Nat):Nat:=x % 9223372036854775808
def isNeg (x:Nat):Bool:=x / 9223372036854775808 % 2==1
def skey (x:Nat):Int:=if isNeg x then -(rung x:Int) else (rung x:Int)
def nanB (x:Nat):Bool:=decide (9218868437227405312<rung x)
def ord (x y:Nat):Option Ordering:=FloatKind.f64.format.order x y
def V (r:Nat):Nat:=if r<4503599627370496 then r else (4503599627370496+r % 4503599627370496)*2 ^ (r / 4503599627370496-1)
theorem Ajo (r:Nat):V r<V (r+1):=by
 unfold V
 by_cases h:r+1<4503599627370496
 ·rw [if_pos (by omega),if_pos h];omega
 ·by_cases h2:r<4503599627370496
  ·rw [if_pos h2,if_neg h];have:r=4503599627370495:=by omega
   subst this;decide
  ·rw [if_neg h2,if_neg h]
   by_cases h3:r % 4503599627370496=4503599627370495
   ·have e1:(r+1) % 4503599627370496=0:=by omega
    have e2:(r+1) / 4503599627370496-1=(r / 4503599627370496-1)+1:=by omega
    rw [e1,e2,h3,Nat.pow_succ];have:0<2 ^ (r / 4503599627370496-1):=Nat.two_pow_pos _;omega
   ·have e1:(r+1) % 4503599627370496=r % 4503599627370496+1:=by omega
    have e2:(r+1) / 4503599627370496=r / 4503599627370496:=by omega
    rw [e1,e2];exact Nat.mul_lt_mul_of_pos_right (by omega) (Nat.two_pow_pos _)
theorem V_lt {r s:Nat} (h:r<s):V r<V s:=by
 induction s with
 |zero=>omega
 |succ s ih=>
  rcases Nat.lt_or_ge r s with h1|h1
  ·exact Nat.lt_trans (ih h1) (Ajo s)
  ·have:r=s:=by omega
   subst this;exact Ajo r
theorem A2k (a b:Int) (r s:Nat) (x y:Int)
  (hx:(a=V r/\x=r)\/(a=-(V r:Int)/\x=-(r:Int))) (hy:(b=V s/\y=s)\/(b=-(V s:Int)/\y=-(s:Int))):compare a b=compare x y:=by
 have V0:V 0=0:=by decide
 have pos:∀t:Nat,0<t->0<V t:=fun t ht=>by have:=V_lt ht;omega
 have hr:=pos r;have hs:=pos s;have hrs:r<s->V r<V s:=V_lt;have hsr:s<r->V s<V r:=V_lt;have e0:r=0->V r=0:=by rintro rfl;exact V0
 have f0:s=0->V s=0:=by rintro rfl;exact V0
 have ee:r=s->V r=V s:=by rintro rfl;rfl
 generalize V r=p at *
 generalize V s=q at *
 have key:(a<b↔x<y)/\(a=b↔x=y):=by
  rcases hx with⟨h1,h2⟩|⟨h1,h2⟩<;>rcases hy with⟨h3,h4⟩|⟨h3,h4⟩<;>constructor<;>omega
 simp only [compare,compareOfLessAndEq,key.1,key.2]
def E (r:Nat):Nat:=if r<4503599627370496 then 0 else r / 4503599627370496-1
def M (r:Nat):Nat:=if r<4503599627370496 then r else 4503599627370496+r % 4503599627370496
theorem V_eq (r:Nat):V r=M r*2 ^ E r:=by
 unfold V M E;split<;>simp
theorem Xs (x:Nat) (h:rung x<9218868437227405312):FloatKind.f64.format.read x=.number (isNeg x) (M (rung x)) (-1074+(E (rung x):Int)):=by
 show Ieee.Format.read Ieee.double x=_;unfold Ieee.Format.read;have e1:Ieee.double.signWeight=9223372036854775808:=by decide
 have e2:Ieee.double.binade=4503599627370496:=by decide
 have e3:Ieee.double.infRung=9218868437227405312:=by decide
 have e4:Ieee.double.leastPlace=-1074:=by decide
 simp only [e1,e2,e3,e4];unfold rung at h;unfold M E rung isNeg
 by_cases h1:x % 9223372036854775808<4503599627370496
 ·simp [h1]
 ·simp [h1,h]
theorem s9 (x:Nat) (h:rung x=9218868437227405312):FloatKind.f64.format.read x=.infinity (isNeg x):=by
 show Ieee.Format.read Ieee.double x=_;unfold Ieee.Format.read;have e1:Ieee.double.signWeight=9223372036854775808:=by decide
 have e2:Ieee.double.binade=4503599627370496:=by decide
 have e3:Ieee.double.infRung=9218868437227405312:=by decide
 simp only [e1,e2,e3];unfold rung at h;rw [h];simp [isNeg]
theorem Ak4 (x:Nat) (h:9218868437227405312<rung x):FloatKind.f64.format.read x=.nan (isNeg x) (rung x-9218868437227405312):=by
 show Ieee.Format.read Ieee.double x=_;unfold Ieee.Format.read;have e1:Ieee.double.signWeight=9223372036854775808:=by decide
 have e2:Ieee.double.binade=4503599627370496:=by decide
 have e3:Ieee.double.infRung=9218868437227405312:=by decide
 simp only [e1,e2,e3];unfold rung at h |-;rw [if_neg (by omega),if_neg (by omega),if_neg (by omega)];rfl
theorem cmp_lt {a b:Int} (h:a<b):compare a b=.lt:=by simp [compare,compareOfLessAndEq,h]
theorem cmp_gt {a b:Int} (h:b<a):compare a b=.gt:=by
 have h1:¬a<b:=by omega
 have h2:¬a=b:=by omega
 simp [compare,compareOfLessAndEq,h1,h2]
theorem cmp_eq {a b:Int} (h:a=b):compare a b=.eq:=by simp [compare,compareOfLessAndEq,h]
theorem A8y (a b:Int) (k:Nat) (hk:0<k):compare (a*k) (b*k)=compare a b:=by
 have hk':(0:Int)<k:=by omega
 have h1:a*k<b*k↔a<b:=⟨fun h=>Int.lt_of_mul_lt_mul_right h (by omega),fun h=>Int.mul_lt_mul_of_pos_right h hk'⟩
 have h2:a*k=b*k↔a=b:=⟨fun h=>Int.eq_of_mul_eq_mul_right (by omega) h,fun h=>by rw [h]⟩
 simp only [compare,compareOfLessAndEq,h1,h2]
theorem Akd (s:Bool) (m u k:Nat):Ieee.signed s m u*((2 ^ k:Nat):Int)=Ieee.signed s m (u+k):=by
 unfold Ieee.signed;have:((m <<< u:Nat):Int)*((2 ^ k:Nat):Int)=((m <<< (u+k):Nat):Int):=by
  rw [Nat.shiftLeft_eq,Nat.shiftLeft_eq,Nat.pow_add,<-Nat.mul_assoc];exact (Int.natCast_mul _ _).symm
 cases s<;>simp only [Bool.false_eq_true,if_false,if_true]
 ·exact this
 ·rw [Int.neg_mul,this]
theorem Ajj (x:Nat):Ieee.signed (isNeg x) (M (rung x)) (E (rung x))=if isNeg x then -(V (rung x):Int) else (V (rung x):Int):=by
 unfold Ieee.signed;rw [Nat.shiftLeft_eq,<-V_eq]
theorem ord_skey (x y:Nat) (hx:nanB x=false) (hy:nanB y=false):ord x y=some (compare (skey x) (skey y)):=by
 have Bx:rung x<=9218868437227405312:=by simpa [nanB] using hx
 have hy':rung y<=9218868437227405312:=by simpa [nanB] using hy
 unfold ord Ieee.Format.order;rcases Nat.lt_or_ge (rung x) 9218868437227405312 with h1|h1<;>rcases Nat.lt_or_ge (rung y) 9218868437227405312 with h2|h2
 ·rw [Xs x h1,Xs y h2];simp only [Ieee.Datum.order];congr 1;have hb:∀e f:Nat,(-1074+(e:Int)-min (-1074+(e:Int)) (-1074+(f:Int))).toNat+min e f=e:=by intro e f;omega
  have Fh:∀e f:Nat,(-1074+(f:Int)-min (-1074+(e:Int)) (-1074+(f:Int))).toNat+min e f=f:=by intro e f;omega
  rw [<-A8y _ _ (2 ^ min (E (rung x)) (E (rung y))) (Nat.two_pow_pos _),Akd,Akd,hb,Fh,Ajj,Ajj];refine A2k _ _ (rung x) (rung y) _ _ ?_ ?_
  ·unfold skey;cases isNeg x<;>simp
  ·unfold skey;cases isNeg y<;>simp
 ·have Ir:rung y=9218868437227405312:=by omega
  rw [Xs x h1,s9 y Ir];simp only [Ieee.Datum.order];congr 1;unfold skey;rw [Ir];cases isNeg y<;>cases isNeg x<;>first|exact (cmp_lt (by simp;omega)).symm|exact (cmp_gt (by simp;omega)).symm
 ·have Nb:rung x=9218868437227405312:=by omega
  rw [Xs y h2,s9 x Nb];simp only [Ieee.Datum.order];congr 1;unfold skey;rw [Nb];cases isNeg x<;>cases isNeg y<;>first|exact (cmp_lt (by simp;omega)).symm|exact (cmp_gt (by simp;omega)).symm
 ·have Nb:rung x=9218868437227405312:=by omega
  have Ir:rung y=9218868437227405312:=by omega
  rw [s9 x Nb,s9 y Ir];simp only [Ieee.Datum.order];congr 1;unfold skey;rw [Nb,Ir];cases isNeg x<;>cases isNeg y<;>decide
theorem ord_nan_left (x y:Nat) (hx:nanB x=true):ord x y=none:=by
 have Bx:9218868437227405312<rung x:=by simpa [nanB] using hx
 unfold ord Ieee.Format.order;rw [Ak4 x Bx];rfl
theorem ord_nan_right (x y:Nat) (hy:nanB y=true):ord x y=none:=by
 have hy':9218868437227405312<rung y:=by simpa [nanB] using hy
 unfold ord Ieee.Format.order;rw [Ak4 y hy'];cases FloatKind.f64.format.read x<;>rfl
end Go.Proofs.YtdpigpopcbjkmaaGreatDoor.Flt
namespace Go.Proofs.YtdpigpopcbjkmaaGreatDoor.Flt
open Go Go.RowKit
def rg (m:Nat):Nat:=((m.log2:Int)-52+1074).toNat*4503599627370496+Ieee.Toward.even.cut false (m <<< (0-((m.log2:Int)-52)).toNat) ((m.log2:Int)-52-0).toNat
def R (m:Nat):Nat:=if m=0 then 0 else min (rg m) 9218868437227405312
theorem Auj (s t:Bool) (n d:Nat):Ieee.Toward.even.cut s n d=Ieee.Toward.even.cut t n d:=rfl
theorem A6v (neg:Bool) (m:Nat):Ieee.double.nearest neg m 0=Ieee.double.word neg (R m):=by
 unfold Ieee.Format.nearest R
 by_cases h:m=0
 ·rw [if_pos h,if_pos h]
 ·rw [if_neg h,if_neg h];have e2:Ieee.double.binade=4503599627370496:=by decide
  have e3:Ieee.double.infRung=9218868437227405312:=by decide
  have e4:Ieee.double.leastPlace=-1074:=by decide
  have e5:(Ieee.double.fractionBits:Int)=52:=by decide
  simp only [e2,e3,e4,e5];have el:max ((0:Int)+(m.log2:Int)-52) (-1074)=(m.log2:Int)-52:=by omega
  rw [el];unfold rg;rw [show (m.log2:Int)-52 - -1074=(m.log2:Int)-52+1074 by omega,Auj neg false]
theorem A7q (n:Nat):Ieee.Toward.even.cut false n 0=n:=by
 unfold Ieee.Toward.cut;simp [Nat.mod_one]
theorem R_le (m:Nat):R m<=9218868437227405312:=by
 unfold R;split<;>omega
theorem Ab5 (neg:Bool) {r:Nat} (h:r<=9218868437227405312):rung (Ieee.double.word neg r)=r/\isNeg (Ieee.double.word neg r)=neg:=by
 have e1:Ieee.double.signWeight=9223372036854775808:=by decide
 unfold Ieee.Format.word rung isNeg;rw [e1];cases neg
 ·simp only [Bool.false_eq_true,if_false];refine⟨by omega,?_⟩;have:r / 9223372036854775808=0:=by omega
  rw [this];rfl
 ·simp only [if_true];refine⟨by omega,?_⟩;have:(9223372036854775808+r) / 9223372036854775808=1:=by omega
  rw [this];rfl
theorem Ay8 (neg:Bool) {r:Nat} (h:r<=9218868437227405312):nanB (Ieee.double.word neg r)=false:=by
 unfold nanB;rw [(Ab5 neg h).1];simpa using h
theorem Akb (n:Int):floatOfInt .f64 n=Ieee.double.word (n<0) (R n.natAbs):=A6v _ _
theorem ofInt_nan (n:Int):nanB (floatOfInt .f64 n)=false:=by rw [Akb];exact Ay8 _ (R_le _)
theorem ofInt_key (n:Int):skey (floatOfInt .f64 n)=if n<0 then -(R n.natAbs:Int) else (R n.natAbs:Int):=by
 rw [Akb];unfold skey;rw [(Ab5 _ (R_le _)).1,(Ab5 _ (R_le _)).2]
 by_cases h:n<0<;>simp [h]
end Go.Proofs.YtdpigpopcbjkmaaGreatDoor.Flt
namespace Go.Proofs.YtdpigpopcbjkmaaGreatDoor.Flt
def cc:Nat:=1074
def U:Nat:=2 ^ cc
theorem U_eq {x:Nat} (h:x=1074):2 ^ x=U:=by
 have:x=cc:=h;rw [this,U]
theorem U_pos:0<U:=Nat.two_pow_pos cc
theorem A0x (s:Bool) (n d:Nat):Ieee.Toward.zero.cut s n d=n / 2 ^ d:=by
 unfold Ieee.Toward.cut;simp only [Bool.toNat_false,Nat.add_zero,Nat.one_shiftLeft];rcases Nat.le_total d (n.log2+2) with h|h
 ·rw [Nat.min_eq_left h]
 ·rw [Nat.min_eq_right h];have h1:n<2 ^ (n.log2+2):=by
   rcases Nat.eq_zero_or_pos n with rfl|hn
   ·exact Nat.two_pow_pos _
   ·have:=Nat.lt_log2_self (n:=n);rw [Nat.pow_succ];omega
  have h2:n<2 ^ d:=Nat.lt_of_lt_of_le h1 (Nat.pow_le_pow_right (by decide) h);rw [Nat.div_eq_of_lt h1,Nat.div_eq_of_lt h2]
theorem toInt_pos (b:Nat) (h:rung b<9218868437227405312) (hn:isNeg b=false):(FloatKind.f64.decode b).toInt .zero=some ((V (rung b) / U:Nat):Int):=by
 rw [show FloatKind.f64.decode b=_ from Xs b h];unfold Ieee.Datum.toInt Ieee.Datum.integral;simp only [hn,A0x];unfold Ieee.signed;simp only [Bool.false_eq_true,if_false,Nat.shiftLeft_zero];congr 2;rw [V_eq,Nat.shiftLeft_eq];generalize M (rung b)=m;generalize E (rung b)=e;rcases Nat.le_total 1074 e with h1|h1
 ·rw [show (-(-1074+(e:Int))).toNat=0 by omega,show (-1074+(e:Int)).toNat=e-1074 by omega,Nat.pow_zero,Nat.div_one];have:2 ^ e=2 ^ (e-1074)*U:=by rw [<-U_eq (x:=cc) rfl,<-Nat.pow_add];congr 1;have:cc=1074:=rfl;omega
  rw [this,<-Nat.mul_assoc,Nat.mul_div_cancel _ U_pos]
 ·rw [show (-(-1074+(e:Int))).toNat=1074-e by omega,show (-1074+(e:Int)).toNat=0 by omega,Nat.pow_zero,Nat.mul_one];have:U=2 ^ (1074-e)*2 ^ e:=by rw [<-Nat.pow_add,U_eq (by omega)]
  rw [this,Nat.mul_div_mul_right _ _ (Nat.two_pow_pos e)]
theorem V_R (n:Nat) (h0:n≠0) (hn:n<9007199254740992):R n<9218868437227405312/\V (R n)=n*U:=by
 have hl:n.log2<=52:=by
  have:=(Nat.log2_lt h0 (k:=53)).2 (by omega);omega
 have h1:2 ^ n.log2<=n:=Nat.log2_self_le h0;have h2:n<2 ^ (n.log2+1):=Nat.lt_log2_self;have e52:(2:Nat) ^ 52=2 ^ n.log2*2 ^ (52-n.log2):=by rw [<-Nat.pow_add];congr 1;omega
 have hp:=Nat.two_pow_pos (52-n.log2);have lo:4503599627370496<=n*2 ^ (52-n.log2):=by
  have:=Nat.mul_le_mul_right (2 ^ (52-n.log2)) h1;rw [<-e52] at this;exact this
 have hi:n*2 ^ (52-n.log2)<9007199254740992:=by
  have:=Nat.mul_lt_mul_of_pos_right h2 hp;rw [Nat.pow_succ,Nat.mul_right_comm,<-e52] at this;exact this
 have hR:rg n=(n.log2+1022)*4503599627370496+n*2 ^ (52-n.log2):=by
  unfold rg;rw [show ((n.log2:Int)-52-0).toNat=0 by omega,A7q,Nat.shiftLeft_eq,show (0-((n.log2:Int)-52)).toNat=52-n.log2 by omega,show ((n.log2:Int)-52+1074).toNat=n.log2+1022 by omega]
 have hRR:R n=rg n:=by
  unfold R;rw [if_neg h0,hR];omega
 rw [hRR,hR];refine⟨by omega,?_⟩;have hd:((n.log2+1022)*4503599627370496+n*2 ^ (52-n.log2)) / 4503599627370496=n.log2+1023:=by omega
 have hm:((n.log2+1022)*4503599627370496+n*2 ^ (52-n.log2)) % 4503599627370496=n*2 ^ (52-n.log2)-4503599627370496:=by omega
 unfold V;rw [if_neg (by omega),hd,hm,show 4503599627370496+(n*2 ^ (52-n.log2)-4503599627370496)=n*2 ^ (52-n.log2) by omega,Nat.mul_assoc,<-Nat.pow_add,U_eq (by omega)]
theorem V_le {r s:Nat} (h:r<=s):V r<=V s:=by
 rcases Nat.lt_or_ge r s with h1|h1
 ·exact Nat.le_of_lt (V_lt h1)
 ·rw [show r=s by omega];exact Nat.le_refl _
theorem le_cut {b n:Nat} (hb:nanB b=false) (h0:n≠0) (hn:n<9007199254740992) (h:skey (floatOfInt .f64 n)<=skey b):isNeg b=false/\n<=V (rung b) / U:=by
 obtain⟨h1,h2⟩:=V_R n h0 hn;have hk:=ofInt_key (n:Int);rw [if_neg (by omega),Int.natAbs_natCast] at hk;rw [hk] at h;have Ci:0<R n:=by
  rcases Nat.eq_zero_or_pos (R n) with e|e
  ·rw [e] at h2;have:0<n*U:=Nat.mul_pos (by omega) U_pos;have h3:V 0=0:=by decide
   omega
  ·exact e
 unfold skey at h;cases d9:isNeg b with
 |true=>rw [d9,if_pos rfl] at h;omega
 |false=>
  rw [d9,if_neg (by decide)] at h;refine⟨rfl,?_⟩;have hle:V (R n)<=V (rung b):=V_le (by omega);rw [h2] at hle;exact (Nat.le_div_iff_mul_le U_pos).2 hle
theorem cut_lt {b n:Nat} (h0:n≠0) (hn:n<9007199254740992) (hp:isNeg b=false) (h:skey b<skey (floatOfInt .f64 n)):rung b<9218868437227405312/\V (rung b) / U<n:=by
 obtain⟨h1,h2⟩:=V_R n h0 hn;have hk:=ofInt_key (n:Int);rw [if_neg (by omega),Int.natAbs_natCast] at hk;rw [hk] at h;unfold skey at h;rw [hp,if_neg (by decide)] at h;have Ab:=V_lt (show rung b<R n by omega);rw [h2] at Ab;exact⟨by omega,(Nat.div_lt_iff_lt_mul U_pos).2 Ab⟩
end Go.Proofs.YtdpigpopcbjkmaaGreatDoor.Flt
namespace Go.Proofs.YtdpigpopcbjkmaaGreatDoor.Nrm
open Go Go.RowKit
def within (n:Int) (m:Nat):Bool:=FloatKind.f64.format.order (floatOfInt .f64 n) m==some Ordering.lt || FloatKind.f64.format.order (floatOfInt .f64 n) m==some Ordering.eq
theorem Avj (b n:Nat) (h:(FloatKind.f64.decode b).toInt .zero=some (n:Int)) (hn:n<9223372036854775808) (w:World):(convert 25 3 (.float .f64 b)).run Tryz.prog w=.ok (.int .i64 n) w:=by
 have hk:(convert 25 3 (.float .f64 b)).run Tryz.prog w=(Conv.floatToInt .f64 b .i64).run Tryz.prog w:=by kernel_rfl
 rw [hk];unfold Conv.floatToInt;rw [h];have h1:IntKind.i64.min<=(n:Int)/\(n:Int)<=IntKind.i64.max:=by
  have e1:IntKind.i64.min=-9223372036854775808:=by decide
  have e2:IntKind.i64.max=9223372036854775807:=by decide
  rw [e1,e2];omega
 simp only [h1,and_self,if_true];rfl
def big:Nat:=4741671816366391296
theorem Bba (b n:Nat) (h0:Flt.nanB b=false) (h1:¬Flt.skey b<=0) (h2:Flt.skey b<Flt.skey big) (h:(FloatKind.f64.decode b).toInt .zero=some (n:Int)) (hn:n<9223372036854775808) (w:World) :
  Calls Tryz.prog 34 #[.float .f64 b] w fun e w'=>e=.returned (.int .i64 n)/\w'=w:=by
 have hc:=Avj b n h hn;have o1:FloatKind.f64.format.order b b=some .eq:=by rw [show FloatKind.f64.format.order b b=Flt.ord b b from rfl,Flt.ord_skey b b h0 h0,Flt.cmp_eq rfl]
 have o2:FloatKind.f64.format.order b 0=some .gt:=by rw [show FloatKind.f64.format.order b 0=Flt.ord b 0 from rfl,Flt.ord_skey b 0 h0 (by decide),Flt.cmp_gt (by rw [show Flt.skey 0=0 by decide];omega)]
 have o3:FloatKind.f64.format.order b 4741671816366391296=some .lt:=by rw [show FloatKind.f64.format.order b 4741671816366391296=Flt.ord b big from rfl,Flt.ord_skey b _ h0 (by decide),Flt.cmp_lt h2]
 go_enter Tryz.func34,Tryz.ntmps34
 go_wp2
 all_goals
  go_ret
  exact⟨rfl,rfl⟩
theorem A0f (b:Nat) (h0:Flt.nanB b=true) (w:World):Calls Tryz.prog 34 #[.float .f64 b] w fun e w'=>e=.returned (.int .i64 (0:Nat))/\w'=w:=by
 have o1:FloatKind.f64.format.order b b=none:=by rw [show FloatKind.f64.format.order b b=Flt.ord b b from rfl,Flt.ord_nan_left b b h0]
 go_enter Tryz.func34,Tryz.ntmps34
 go_wp2
 all_goals
  go_ret
  exact⟨rfl,rfl⟩
theorem Axe (b:Nat) (h0:Flt.nanB b=false) (h1:Flt.skey b<=0) (w:World):Calls Tryz.prog 34 #[.float .f64 b] w fun e w'=>e=.returned (.int .i64 (0:Nat))/\w'=w:=by
 have o1:FloatKind.f64.format.order b b=some .eq:=by rw [show FloatKind.f64.format.order b b=Flt.ord b b from rfl,Flt.ord_skey b b h0 h0,Flt.cmp_eq rfl]
 rcases Int.lt_or_eq_of_le h1 with h1|h1
 ·have o2:FloatKind.f64.format.order b 0=some .lt:=by rw [show FloatKind.f64.format.order b 0=Flt.ord b 0 from rfl,Flt.ord_skey b 0 h0 (by decide),Flt.cmp_lt (by rw [show Flt.skey 0=0 by decide];omega)]
  go_enter Tryz.func34,Tryz.ntmps34
  go_wp2
  all_goals
   go_ret
   exact⟨rfl,rfl⟩
 ·have o2:FloatKind.f64.format.order b 0=some .eq:=by rw [show FloatKind.f64.format.order b 0=Flt.ord b 0 from rfl,Flt.ord_skey b 0 h0 (by decide),Flt.cmp_eq (by rw [show Flt.skey 0=0 by decide];omega)]
  go_enter Tryz.func34,Tryz.ntmps34
  go_wp2
  all_goals
   go_ret
   exact⟨rfl,rfl⟩
theorem Bcr (b:Nat) (h0:Flt.nanB b=false) (h1:Flt.skey big<=Flt.skey b) (w:World):Calls Tryz.prog 34 #[.float .f64 b] w fun e w'=>e=.returned (.int .i64 (1000000000:Nat))/\w'=w:=by
 have o1:FloatKind.f64.format.order b b=some .eq:=by rw [show FloatKind.f64.format.order b b=Flt.ord b b from rfl,Flt.ord_skey b b h0 h0,Flt.cmp_eq rfl]
 have hb:(0:Int)<Flt.skey big:=by decide
 have o2:FloatKind.f64.format.order b 0=some .gt:=by rw [show FloatKind.f64.format.order b 0=Flt.ord b 0 from rfl,Flt.ord_skey b 0 h0 (by decide),Flt.cmp_gt (by rw [show Flt.skey 0=0 by decide];omega)]
 rcases Int.lt_or_eq_of_le h1 with h1|h1
 ·have o3:FloatKind.f64.format.order b 4741671816366391296=some .gt:=by rw [show FloatKind.f64.format.order b 4741671816366391296=Flt.ord b big from rfl,Flt.ord_skey b _ h0 (by decide),Flt.cmp_gt h1]
  go_enter Tryz.func34,Tryz.ntmps34
  go_wp2
  all_goals
   go_ret
   exact⟨rfl,rfl⟩
 ·have o3:FloatKind.f64.format.order b 4741671816366391296=some .eq:=by rw [show FloatKind.f64.format.order b 4741671816366391296=Flt.ord b big from rfl,Flt.ord_skey b _ h0 (by decide),Flt.cmp_eq h1.symm]
  go_enter Tryz.func34,Tryz.ntmps34
  go_wp2
  all_goals
   go_ret
   exact⟨rfl,rfl⟩
theorem Acj {n:Int} {b:Nat} (h:within n b=true):Flt.nanB b=false/\Flt.skey (floatOfInt .f64 n)<=Flt.skey b:=by
 have hn:=Flt.ofInt_nan n;cases hb:Flt.nanB b with
 |true=>
  have:FloatKind.f64.format.order (floatOfInt .f64 n) b=none:=Flt.ord_nan_right _ b hb;simp [within,this] at h
 |false=>
  refine⟨rfl,?_⟩;have ho:FloatKind.f64.format.order (floatOfInt .f64 n) b=some (compare (Flt.skey (floatOfInt .f64 n)) (Flt.skey b)):=Flt.ord_skey _ b hn hb;rcases Int.lt_trichotomy (Flt.skey (floatOfInt .f64 n)) (Flt.skey b) with h1|h1|h1
  ·omega
  ·omega
  ·rw [Flt.cmp_gt h1] at ho;simp [within,ho] at h
theorem limit_all (b:Nat):∃L:Nat,L<=1000000000/\(∀w:World,Calls Tryz.prog 34 #[.float .f64 b] w fun e w'=>e=.returned (.int .i64 L)/\w'=w)/\∀n:Nat,n<=1000000000->within n b=true->n<=L:=by
 have Nn:big=floatOfInt .f64 (1000000000:Nat):=by decide +kernel
 cases h0:Flt.nanB b with
 |true=>exact⟨0,by omega,A0f b h0,fun n _ h=>by rw [(Acj h).1] at h0;cases h0⟩
 |false=>
  by_cases h1:Flt.skey b<=0
  ·refine⟨0,by omega,Axe b h0 h1,fun n hn h=>?_⟩
   by_cases hz:n=0
   ·omega
   ·have hle:=(Acj h).2;have:=Flt.le_cut h0 hz (by omega) hle;obtain⟨k1,k2⟩:=Flt.V_R n hz (by omega);have hk:=Flt.ofInt_key (n:Int);rw [if_neg (by omega),Int.natAbs_natCast] at hk;have Ci:Flt.R n=0:=by omega
    rw [Ci] at k2;have:0<n*Flt.U:=Nat.mul_pos (by omega) Flt.U_pos;have h3:Flt.V 0=0:=by decide
    omega
  ·by_cases h2:Flt.skey b<Flt.skey big
   ·have d9:Flt.isNeg b=false:=by
     cases h:Flt.isNeg b with
     |false=>rfl
     |true=>unfold Flt.skey at h1;rw [h,if_pos rfl] at h1;omega
    rw [Nn] at h2;obtain⟨k1,k2⟩:=Flt.cut_lt (n:=1000000000) (by omega) (by omega) d9 h2;rw [<-Nn] at h2;have k3:=Flt.toInt_pos b k1 d9;have k4:∀n:Nat,n<=1000000000->within n b=true->n<=Flt.V (Flt.rung b) / Flt.U:=fun n hn h=>by
     by_cases hz:n=0
     ·rw [hz];exact Nat.zero_le _
     ·exact (Flt.le_cut h0 hz (by omega) (Acj h).2).2
    generalize Flt.V (Flt.rung b) / Flt.U=q at k2 k3 k4;exact⟨q,by omega,Bba b q h0 h1 h2 k3 (by omega),k4⟩
   ·exact⟨1000000000,by omega,Bcr b h0 (by omega),fun n hn _=>hn⟩
end Go.Proofs.YtdpigpopcbjkmaaGreatDoor.Nrm
namespace Go.Proofs.YtdpigpopcbjkmaaGreatDoor.Abs
open Go Go.RowKit Go.Proofs.YtdpigpopcbjkmaaGreatDoor
theorem Arf {P:Program} {f:Nat} {args:List SV} {r:SV} {v:Value} (hr:∀m,Rep m v r) (h:∀(m:Mem) (w:World) (vs:List Value),vs.length=args.length->(∀(j:Nat) v x,vs[j]?=some v->args[j]?=some x->Rep m v x) ->
  Calls P f vs.toArray w fun e w'=>e=.returned v/\w'=w):Contract P f args r:=by
 intro m w vs hm hl hp;refine (h m w vs hl hp).mono ?_;rintro e w' ⟨rfl,rfl⟩;exact⟨_,m,rfl,hr m,⟨.refl m,rfl⟩,fun _ _ _=>rfl,hm,rfl,rfl,rfl,Nat.le_refl _,fun _ _=>rfl⟩
theorem A9z (b:Nat):∃L:Nat,L<=1000000000/\Con 34 [.float .f64 b] (.int .i64 L)/\∀n:Nat,n<=1000000000->Nrm.within n b=true->n<=L:=by
 obtain⟨L,h1,h2,h3⟩:=Nrm.limit_all b;refine⟨L,h1,Arf (fun m=>.int _ _) (fun m w vs hl hr=>?_),h3⟩
 match vs,hl with
 |[v],_=>
  have h0:=hr 0 v _ rfl rfl;cases h0;exact h2 w
abbrev FF:Nat->Int->Tm:=fun _ l=>fT l
def sv (σ:Nat->Tm) (b i:Nat):Tm:=if i<b then vT i else Mt b (σ (i-b))
def Abq (σ:Nat->Tm) (b:Nat) (t:Tm):Tm:=trT (sv σ) FF b t
theorem Bg0 (b i:Nat):Mt b (vT i)=vT (i+b):=by
 unfold Mt;rw [Ga];unfold lfv;rw [if_neg (by omega)]
def shf (k:Nat) (i:Nat):Tm:=vT (i+k)
theorem Bhj (k:Nat):sv (shf k)=lfv k:=by
 funext b i;unfold sv lfv shf
 by_cases h:i<b
 ·rw [if_pos h,if_pos h]
 ·rw [if_neg h,if_neg h,Bg0];congr 1;omega
def Bhf (u:Tm):Nat->Tm
 |0=>u
 |i+1=>vT i
theorem Bid (u:Tm):sv (Bhf u)=ptv u:=by
 funext b i;unfold sv ptv
 by_cases h:i<b
 ·rw [if_pos h,if_pos h]
 ·rw [if_neg h,if_neg h]
  by_cases h':i=b
  ·subst h';rw [if_pos rfl,Nat.sub_self];rfl
  ·rw [if_neg h'];obtain⟨q,rfl⟩:∃q,i=b+(q+1):=⟨i-b-1,by omega⟩
   rw [show b+(q+1)-b=q+1 by omega];show Mt b (vT q)=_;rw [Bg0];congr 1;omega
def Anm (l:List Tm) (i:Nat):Tm:=l.getD i (vT 0)
theorem Bg1 (k:Nat) (t:Tm):Mt k t=Abq (shf k) 0 t:=by unfold Abq;rw [Bhj];rfl
theorem Bhg (u t:Tm):Kx u t=Abq (Bhf u) 0 t:=by unfold Abq;rw [Bid];rfl
theorem Ann (l:List Tm) (t:Tm):Ki l t=Abq (Anm l) 0 t:=rfl
theorem Bg2 (σ:Nat->Tm) (b c:Nat) (u:Tm):trT (sv σ) FF (c+b) (Mt c u)=Mt c (trT (sv σ) FF b u):=by
 have h1:=Wu (v1:=lfv c) (f1:=FF) (v2:=sv σ) (f2:=FF) (v:=fun d i=>if i<d then vT i else if i<d+b then vT (i+c) else Mt (d+b+c) (σ (i-d-b))) (f:=FF) 0 (c+b) (fun d i=>?_) (fun _ _=>Mm _ _) u 0
 ·have h2:=Wu (v1:=sv σ) (f1:=FF) (v2:=lfv c) (f2:=FF) (v:=fun d i=>if i<d then vT i else if i<d+b then vT (i+c) else Mt (d+b+c) (σ (i-d-b))) (f:=FF) b 0 (fun d i=>?_) (fun _ _=>Mm _ _) u 0
  ·simp only [Nat.add_zero,Nat.zero_add] at h1 h2;exact h1.trans h2.symm
  ·rw [Nat.add_zero];unfold sv
   by_cases h:i<d
   ·rw [if_pos (by omega),Ga,if_pos h];unfold lfv;rw [if_pos h]
   ·by_cases h':i<d+b
    ·rw [if_pos h',Ga,if_neg h,if_pos h'];unfold lfv;rw [if_neg h]
    ·rw [if_neg h',if_neg h,if_neg h',show i-(d+b)=i-d-b by omega];have:=Wu (v1:=lfv (d+b)) (f1:=FF) (v2:=lfv c) (f2:=FF) (v:=lfv (d+b+c)) (f:=FF) 0 d (fun e q=>?_) (fun _ _=>Mm _ _) (σ (i-d-b)) 0
     ·simpa [Mt] using this
     ·rw [Nat.add_zero];unfold lfv
      by_cases h:q<e
      ·rw [if_pos h,Ga,if_pos (by omega),if_pos h]
      ·rw [if_neg h,Ga,if_neg (by omega),if_neg h];congr 1;omega
 ·rw [Nat.add_zero];unfold lfv
  by_cases h:i<d
  ·rw [if_pos h,Ga,if_pos h];unfold sv;rw [if_pos (by omega)]
  ·rw [if_neg h,Ga,if_neg h];unfold sv
   by_cases h':i<d+b
   ·rw [if_pos (by omega),if_pos h']
   ·rw [if_neg (by omega),if_neg h',show d+(c+b)=d+b+c by omega,show i+c-(d+b+c)=i-d-b by omega]
theorem Bh4 (u s:Tm) (c m:Nat):trT (ptv u) FF c (Mt (c+1+m) s)=Mt (c+m) s:=by
 have h1:=Wu (v1:=lfv (c+1+m)) (f1:=FF) (v2:=ptv u) (f2:=FF) (v:=lfv (c+m)) (f:=FF) 0 c (fun d i=>?_) (fun _ _=>Mm _ _) s 0
 ·simpa [Mt] using h1
 ·simp only [Nat.add_zero];unfold lfv
  by_cases h:i<d
  ·rw [if_pos h,Ga,if_pos h];unfold ptv;rw [if_pos (by omega)]
  ·rw [if_neg h,Ga,if_neg h];unfold ptv;rw [if_neg (by omega),if_neg (by omega)];congr 1;omega
theorem Bic (σ:Nat->Tm) (b:Nat) (u a:Tm):trT (sv σ) FF b (Kx u a)=Kx (trT (sv σ) FF b u) (trT (sv σ) FF (b+1) a):=by
 have h1:=Wu (v1:=ptv u) (f1:=FF) (v2:=sv σ) (f2:=FF) (v:=fun d i=>if i<d then vT i else if i=d then Mt d (trT (sv σ) FF b u) else if i-1<d+b then vT (i-1) else Mt (d+b) (σ (i-1-d-b))) (f:=FF) 0 b (fun d i=>?_) (fun _ _=>Mm _ _) a 0
 ·have h2:=Wu (v1:=sv σ) (f1:=FF) (v2:=ptv (trT (sv σ) FF b u)) (f2:=FF) (v:=fun d i=>if i<d then vT i else if i=d then Mt d (trT (sv σ) FF b u) else if i-1<d+b then vT (i-1) else Mt (d+b) (σ (i-1-d-b))) (f:=FF) (b+1) 0 (fun d i=>?_) (fun _ _=>Mm _ _) a 0
  ·simp only [Nat.add_zero,Nat.zero_add] at h1 h2;exact h1.trans h2.symm
  ·rw [Nat.add_zero];unfold sv
   by_cases h:i<d
   ·rw [if_pos (by omega),Ga,if_pos h];unfold ptv;rw [if_pos h]
   ·by_cases h':i=d
    ·subst h';rw [if_pos (by omega),Ga,if_neg h,if_pos rfl];unfold ptv;rw [if_neg h,if_pos rfl]
    ·by_cases h3:i-1<d+b
     ·rw [if_pos (by omega),Ga,if_neg h,if_neg h',if_pos h3];unfold ptv;rw [if_neg h,if_neg h']
     ·rw [if_neg (by omega),if_neg h,if_neg h',if_neg h3,show d+(b+1)=d+1+b by omega,Bh4,show i-(d+1+b)=i-1-d-b by omega]
 ·rw [Nat.add_zero];unfold ptv
  by_cases h:i<d
  ·rw [if_pos h,Ga,if_pos h];unfold sv;rw [if_pos (by omega)]
  ·by_cases h':i=d
   ·subst h';rw [if_neg h,if_pos rfl,if_neg h,if_pos rfl];exact Bg2 σ b i u
   ·rw [if_neg h,if_neg h',Ga,if_neg h,if_neg h'];unfold sv
    by_cases h3:i-1<d+b
    ·rw [if_pos h3,if_pos h3]
    ·rw [if_neg h3,if_neg h3,show i-1-(d+b)=i-1-d-b by omega]
theorem Bib (σ:Nat->Tm) (b:Nat) (l:List Tm) {t:Tm} (ht:Sf l.length t):trT (sv σ) FF b (Ki l t)=Ki (l.map (trT (sv σ) FF b)) t:=by
 have h1:=Wu (v1:=alv l) (f1:=FF) (v2:=sv σ) (f2:=FF) (v:=fun d i=>if i<d then vT i else Mt d (trT (sv σ) FF b (l.getD (i-d) (vT 0)))) (f:=FF) 0 b (fun d i=>?_) (fun _ _=>Mm _ _) t 0
 ·simp only [Nat.add_zero,Nat.zero_add] at h1;refine h1.trans (A7p ht (fun d i hi hd=>?_));unfold alv;split
  ·rfl
  ·have Ab:i-d<l.length:=by omega
   rw [List.getD_eq_getElem?_getD,q_f Ab,List.getD_eq_getElem?_getD,List.getElem?_map,q_f Ab];rfl
 ·rw [Nat.add_zero];unfold alv
  by_cases h:i<d
  ·rw [if_pos h,Ga,if_pos h];unfold sv;rw [if_pos (by omega)]
  ·rw [if_neg h,if_neg h];exact Bg2 σ b d _
section
variable {B:BT} {C:Nat} {σ σ':Nat->Tm}
theorem Anl {t:Tm} (h:Sf C t) (h2:t.k≠2) (v:Nat->Nat->Tm) (b:Nat):(trT v FF b t).k=t.k/\(trT v FF b t).i=t.i/\(trT v FF b t).j=t.j/\(trT v FF b t).n=t.n/\(trT v FF b t).kids=trL v FF b t.k 0 t.kids:=by
 have h0:=sf_k h;cases t with
 |mk k i j n l=>rw [Gb (show k≠2 from h2) (show k≠0 from h0)];exact⟨rfl,rfl,rfl,rfl,rfl⟩
theorem Abc {t:Tm} (h:Sf C t) (h2:t.k≠2) (v:Nat->Nat->Tm) (b:Nat) {p:Nat} (hp:p<t.kids.length):An (trT v FF b t) p=trT v FF (b+bnd t.k p) (An t p):=by
 unfold An;rw [(Anl h h2 v b).2.2.2.2,List.getD_eq_getElem?_getD,Fo,List.getD_eq_getElem?_getD,q_f hp,Nat.zero_add];rfl
theorem Ae2 {t:Tm} (h:Sf C t) {c:Int} (hk:t.k=c) (hc:c≠2) (v:Nat->Nat->Tm) (b:Nat):(trT v FF b t).k=c:=by rw [(Anl h (by rw [hk];exact hc) v b).1,hk]
theorem Abb {t:Tm} (h:Sf C t) {p:Nat} {c:Int} (hk:t.k=c) (hp:p<t.kids.length) {m:Nat} (hb:bnd c p=m):Sf (C+m) (An t p):=by
 have:=Iw h hp
 rwa [hk,hb] at this
theorem Bhb (hB:Oa B) {t u:Tm} (h:Bw B t=some u) (ht:Sf C t) (σ:Nat->Tm) (b:Nat):Bw B (trT (sv σ) FF b t)=some (trT (sv σ) FF b u):=by
 have h2:t.k≠2:=fun e=>by rw [Sq (by omega)] at h;cases h
 have hl:=Ku ht h2;obtain⟨e1,e2,e3,e4,e5⟩:=Anl ht h2 (sv σ) b
 by_cases Iv:t.k=15
 ·rw [p7 Iv] at h;rw [p7 (e1.trans Iv)];rw [Iv,kids15] at hl;split at h
  ·rename_i c;cases h;have s0:=Abb (p:=0) (m:=0) ht Iv (by omega) (by decide);have Gm:=Ku s0 (by omega);rw [c,kids14] at Gm;rw [Abc ht h2 (sv σ) b (p:=0) (by omega),Abc ht h2 (sv σ) b (p:=1) (by omega),Iv,show bnd 15 0=0 by decide,show bnd 15 1=0 by decide,Nat.add_zero,if_pos (Ae2 s0 c (by decide) _ _),Abc s0 (by omega) (sv σ) b (p:=1) (by omega),c,show bnd 14 1=1 by decide,Bic]
  ·cases h
 by_cases Kp:t.k=18
 ·rw [o6 Kp] at h;rw [o6 (e1.trans Kp)];rw [Kp,kids18] at hl;split at h
  ·rename_i c;cases h;have s0:=Abb (p:=0) (m:=0) ht Kp (by omega) (by decide);have Gm:=Ku s0 (by omega);rw [c,kids17] at Gm;rw [Abc ht h2 (sv σ) b (p:=0) (by omega),Kp,show bnd 18 0=0 by decide,Nat.add_zero,if_pos (Ae2 s0 c (by decide) _ _),Abc s0 (by omega) (sv σ) b (p:=2) (by omega),c,show bnd 17 2=0 by decide,Nat.add_zero]
  ·cases h
 by_cases Kq:t.k=19
 ·rw [j7 Kq] at h;rw [j7 (e1.trans Kq)];rw [Kq,kids19] at hl;split at h
  ·rename_i c;cases h;have s0:=Abb (p:=0) (m:=0) ht Kq (by omega) (by decide);have Gm:=Ku s0 (by omega);rw [c,kids17] at Gm;rw [Abc ht h2 (sv σ) b (p:=0) (by omega),Kq,show bnd 19 0=0 by decide,Nat.add_zero,if_pos (Ae2 s0 c (by decide) _ _),Abc s0 (by omega) (sv σ) b (p:=3) (by omega),c,show bnd 17 3=0 by decide,Nat.add_zero]
  ·cases h
 by_cases Fu:t.k=22
 ·rw [l4 Fu] at h;rw [l4 (e1.trans Fu)];rw [Fu,kids22] at hl;split at h
  ·rename_i c;cases h;have s0:=Abb (p:=5) (m:=0) ht Fu (by omega) (by decide);rw [Abc ht h2 (sv σ) b (p:=5) (by omega),Abc ht h2 (sv σ) b (p:=3) (by omega),Fu,show bnd 22 5=0 by decide,show bnd 22 3=0 by decide,Nat.add_zero,if_pos (Ae2 s0 c (by decide) _ _)]
  ·cases h
 by_cases Ct:t.k=23
 ·rw [l6 Ct] at h;rw [l6 (e1.trans Ct),e2,e3,e4];cases hb:B t.n t.i t.j with
  |none=>rw [hb] at h;cases h
  |some q=>
   rw [hb,Option.map_some,q_b] at h;subst h;rw [Ct] at hl;rw [Option.map_some,Bib _ _ _ (by rw [List.length_reverse,show t.kids.length=(Bf 23 t.n).toNat by omega];exact hB _ _ _ _ hb),e5,Ct];congr 3;rw [List.map_reverse];congr 1;apply List.ext_getElem?;intro p;rw [Fo,List.getElem?_map,Nat.zero_add,bnd23,Nat.add_zero]
 ·rw [Sq (by omega)] at h;cases h
inductive Par (B:BT):Tm->Tm->Prop
 |var (i:Nat):Par B (vT i) (vT i)
 |nd {k i j n:Int} {l l':List Tm} (h2:k≠2) (h0:k≠0) (hl:l'.length=l.length) (hk:∀(p:Nat) t t',l[p]?=some t->l'[p]?=some t'->Par B t t'):Par B (.mk k i j n l) (.mk k i j n l')
 |st {k i j n:Int} {l l':List Tm} {u:Tm} (h2:k≠2) (h0:k≠0) (hl:l'.length=l.length) (hk:∀(p:Nat) t t',l[p]?=some t->l'[p]?=some t'->Par B t t') (hr:(Bw B (.mk k i j n l)).isSome=true) (hu:Bw B (.mk k i j n l')=some u):Par B (.mk k i j n l) u
theorem Am8 {t:Tm} (h:Sf C t):Par B t t:=by
 induction h with
 |var=>exact .var _
 |nd i j n h2 h0 _ _ _ ih=>exact .nd h2 h0 rfl (fun p t t' h h'=>by rw [h,q_b] at h';subst h';exact ih p t h)
theorem Ae0 {k i j n:Int} {l l':List Tm} (h:Sf C (.mk k i j n l)) (h2:k≠2) (hl:l'.length=l.length) (hk:∀(p:Nat) t,l'[p]?=some t->Sf (C+bnd k p) t):Sf C (.mk k i j n l'):=by
 obtain⟨h0,hf,hn⟩:=h.node h2;exact .nd i j n h2 h0 hf (by rw [hl];exact hn) hk
theorem Abl {l l':List Tm} (hl:l'.length=l.length) {p:Nat} {t:Tm} (h:l'[p]?=some t):∃s,l[p]?=some s:=by
 have:=Dt h;exact⟨_,q_f (by omega)⟩
theorem Abh (hB:Oa B) {t u:Tm} (h:Par B t u):∀{C:Nat},Sf C t->Sf C u:=by
 induction h with
 |var i=>intro C h;exact h
 |nd h2 h0 hl hk ih=>
  intro C h;exact Ae0 h h2 hl (fun p t ht=>by obtain⟨s,hs⟩:=Abl hl ht;exact ih p s t hs ht (h.kid hs))
 |st h2 h0 hl hk hr hu ih=>
  intro C h;exact A5y hB hu (Ae0 h h2 hl (fun p t ht=>by obtain⟨s,hs⟩:=Abl hl ht;exact ih p s t hs ht (h.kid hs)))
def ParL (B:BT) (l l':List Tm):Prop:=l'.length=l.length/\∀(p:Nat) t t',l[p]?=some t->l'[p]?=some t'->Par B t t'
theorem ParL.kid {k i j n:Int} {l l':List Tm} (h:ParL B l l') {p:Nat} (hp:p<l.length):Par B (An (.mk k i j n l) p) (An (.mk k i j n l') p):=by
 have hp':p<l'.length:=by rw [h.1];exact hp
 unfold An;simp only [Tm.kids,List.getD_eq_getElem?_getD];rw [q_f hp,q_f hp'];exact h.2 p _ _ (q_f hp) (q_f hp')
theorem Bg9 {t u:Tm} (h:Par B t u) (hv:isV t.k):∃l',u=.mk t.k t.i t.j t.n l'/\ParL B t.kids l':=by
 unfold isV at hv;cases h with
 |var i=>exact absurd (show (2:Int)=14\/(2:Int)=17\/(2:Int)=21 from hv) (by decide)
 |nd h2 h0 hl hk=>exact⟨_,rfl,hl,hk⟩
 |st h2 h0 hl hk hr hu=>
  rw [Sq (by simp only [Tm.k] at hv |-;omega)] at hr;cases hr
theorem Aey {t u:Tm} (h:Par B t u) {c:Int} (hk:t.k=c) (hc:c=14\/c=17\/c=21):u.k=c:=by
 obtain⟨l',rfl,_⟩:=Bg9 h (by unfold isV;omega);exact hk
theorem Ang {t u:Tm} (h:Par B t u) (hv:isV t.k) {p:Nat} (hp:p<t.kids.length):Par B (An t p) (An u p):=by
 obtain⟨l',rfl,hl⟩:=Bg9 h hv;cases t with
 |mk k i j n l=>exact hl.kid hp
theorem Bha {k i j n:Int} {l l':List Tm} (h:Sf C (.mk k i j n l)) (hp:ParL B l l') (hr:(Bw B (.mk k i j n l)).isSome=true):(Bw B (.mk k i j n l')).isSome=true:=by
 have h2:k≠2:=fun e=>by rw [Sq (by show k≠15/\_;simp only [Tm.k];omega)] at hr;cases hr
 have hl:=(h.node h2).2.2
 by_cases Iv:k=15
 ·subst Iv;rw [p7 rfl] at hr |-;rw [kids15] at hl;split at hr
  ·rename_i c;rw [if_pos (Aey (hp.kid (p:=0) (by omega)) c (by omega))];rfl
  ·cases hr
 by_cases Kp:k=18
 ·subst Kp;rw [o6 rfl] at hr |-;rw [kids18] at hl;split at hr
  ·rename_i c;rw [if_pos (Aey (hp.kid (p:=0) (by omega)) c (by omega))];rfl
  ·cases hr
 by_cases Kq:k=19
 ·subst Kq;rw [j7 rfl] at hr |-;rw [kids19] at hl;split at hr
  ·rename_i c;rw [if_pos (Aey (hp.kid (p:=0) (by omega)) c (by omega))];rfl
  ·cases hr
 by_cases Fu:k=22
 ·subst Fu;rw [l4 rfl] at hr |-;rw [kids22] at hl;split at hr
  ·rename_i c;rw [if_pos (Aey (hp.kid (p:=5) (by omega)) c (by omega))];rfl
  ·cases hr
 by_cases Ct:k=23
 ·subst Ct;rw [l6 rfl] at hr |-;simp only [Tm.n,Tm.i,Tm.j] at hr |-;cases hb:B n i j with
  |none=>rw [hb] at hr;cases hr
  |some q=>rfl
 ·rw [Sq (by simp only [Tm.k];omega)] at hr;cases hr
theorem Anc (hB:Oa B) (hV:∀b i,Par B (sv σ b i) (sv σ' b i)) {t t':Tm} (h:Par B t t'):∀{C:Nat},Sf C t->∀b,Par B (trT (sv σ) FF b t) (trT (sv σ') FF b t'):=by
 induction h with
 |var i=>intro C _ b;rw [Ga,Ga];exact hV b i
 |nd h2 h0 hl hk ih=>
  intro C h b;rw [Gb h2 h0,Gb h2 h0];refine .nd h2 h0 (by rw [Mj,Mj];exact hl) (fun p s s' hs f6=>?_);rw [Fo] at hs f6;obtain⟨a,ha,rfl⟩:=Option.map_eq_some_iff.1 hs;obtain⟨a',ha',rfl⟩:=Option.map_eq_some_iff.1 f6;exact ih p a a' ha ha' (h.kid ha) _
 |@st k i j n l l' u h2 h0 hl hk hr hu ih=>
  intro C h b;have f6:Sf C (.mk k i j n l'):=Ae0 h h2 hl (fun p t ht=>by obtain⟨s,hs⟩:=Abl hl ht;exact Abh hB (hk p s t hs ht) (h.kid hs));obtain⟨w,hw⟩:=Option.isSome_iff_exists.1 hr;have q1:=Bhb hB hw h σ b;have q2:=Bhb hB hu f6 σ' b;rw [Gb h2 h0] at q1 q2 |-;refine .st h2 h0 (by rw [Mj,Mj];exact hl) (fun p s s' hs f6=>?_) (by rw [q1];rfl) q2;rw [Fo] at hs f6;obtain⟨a,ha,rfl⟩:=Option.map_eq_some_iff.1 hs;obtain⟨a',ha',rfl⟩:=Option.map_eq_some_iff.1 f6;exact ih p a a' ha ha' (h.kid ha) _
theorem Bhy (hB:Oa B) {t t':Tm} (h:Par B t t') (hs:Sf C t) (b:Nat):Par B (Mt b t) (Mt b t'):=by
 rw [Bg1,Bg1];refine Anc hB (fun c i=>?_) h hs 0;rw [Bhj];unfold lfv;split<;>exact .var _
theorem Bg8 (hB:Oa B) (h:∀i,Par B (σ i) (σ' i)/\∃C,Sf C (σ i)) (b i:Nat):Par B (sv σ b i) (sv σ' b i):=by
 unfold sv;split
 ·exact .var _
 ·obtain⟨h1,C,h2⟩:=h (i-b);exact Bhy hB h1 h2 b
theorem Bh0 (hB:Oa B) {C':Nat} {u u' a a':Tm} (hu:Par B u u') (su:Sf C u) (ha:Par B a a') (sa:Sf C' a):Par B (Kx u a) (Kx u' a'):=by
 rw [Bhg,Bhg];refine Anc hB (Bg8 hB (fun i=>?_)) ha sa 0;cases i with
 |zero=>exact⟨hu,C,su⟩
 |succ i=>exact⟨.var i,i+1,.var (by omega)⟩
theorem Bhx (hB:Oa B) {C':Nat} {l l':List Tm} (h:ParL B l l') (hs:∀t∈l,Sf C t) {b:Tm} (sb:Sf C' b):Par B (Ki l b) (Ki l' b):=by
 rw [Ann,Ann];refine Anc hB (Bg8 hB (fun i=>?_)) (Am8 sb) sb 0;unfold Anm;rw [List.getD_eq_getElem?_getD,List.getD_eq_getElem?_getD];rcases Nat.lt_or_ge i l.length with hi|hi
 ·rw [q_f hi,q_f (show i<l'.length by rw [h.1];exact hi)];exact⟨h.2 i _ _ (q_f hi) (q_f _),C,hs _ (List.getElem_mem hi)⟩
 ·rw [List.getElem?_eq_none hi,List.getElem?_eq_none (show l'.length<=i by rw [h.1];exact hi)];exact⟨.var 0,1,.var (by omega)⟩
end
section
variable {B:BT} {C:Nat}
theorem ParL.rev {l l':List Tm} (h:ParL B l l'):ParL B l.reverse l'.reverse:=by
 refine⟨by simp [h.1],fun p t t' ht Rl=>?_⟩;have hp:=Dt ht;rw [List.length_reverse] at hp;rw [List.getElem?_reverse hp] at ht;rw [List.getElem?_reverse (by rw [h.1];exact hp),h.1] at Rl;exact h.2 _ _ _ ht Rl
theorem Bhz (hB:Oa B) {k i j n:Int} {l l':List Tm} {u u':Tm} (h:Sf C (.mk k i j n l)) (hp:ParL B l l') (hu:Bw B (.mk k i j n l)=some u) (Ll:Bw B (.mk k i j n l')=some u'):Par B u u':=by
 have h2:k≠2:=fun e=>by rw [Sq (by simp only [Tm.k];omega)] at hu;cases hu
 have hl:=(h.node h2).2.2
 by_cases Iv:k=15
 ·subst Iv;rw [p7 rfl] at hu Ll;rw [kids15] at hl;split at hu
  ·rename_i c;split at Ll
   ·cases hu;cases Ll;have s0:=Abb (c:=15) (p:=0) (m:=0) h rfl (by show 0<l.length;omega) (by decide);have s1:=Abb (c:=15) (p:=1) (m:=0) h rfl (by show 1<l.length;omega) (by decide);have Gm:=Ku s0 (by omega);rw [c,kids14] at Gm;exact Bh0 hB (hp.kid (by omega)) s1 (Ang (hp.kid (by omega)) (by unfold isV;omega) (by omega)) (Abb (p:=1) (m:=1) s0 c (by omega) (by decide))
   ·cases Ll
  ·cases hu
 by_cases Kp:k=18
 ·subst Kp;rw [o6 rfl] at hu Ll;rw [kids18] at hl;split at hu
  ·rename_i c;split at Ll
   ·cases hu;cases Ll;have s0:=Abb (c:=18) (p:=0) (m:=0) h rfl (by show 0<l.length;omega) (by decide);have Gm:=Ku s0 (by omega);rw [c,kids17] at Gm;exact Ang (hp.kid (by omega)) (by unfold isV;omega) (by omega)
   ·cases Ll
  ·cases hu
 by_cases Kq:k=19
 ·subst Kq;rw [j7 rfl] at hu Ll;rw [kids19] at hl;split at hu
  ·rename_i c;split at Ll
   ·cases hu;cases Ll;have s0:=Abb (c:=19) (p:=0) (m:=0) h rfl (by show 0<l.length;omega) (by decide);have Gm:=Ku s0 (by omega);rw [c,kids17] at Gm;exact Ang (hp.kid (by omega)) (by unfold isV;omega) (by omega)
   ·cases Ll
  ·cases hu
 by_cases Fu:k=22
 ·subst Fu;rw [l4 rfl] at hu Ll;rw [kids22] at hl;split at hu
  ·split at Ll
   ·cases hu;cases Ll;exact hp.kid (by omega)
   ·cases Ll
  ·cases hu
 by_cases Ct:k=23
 ·subst Ct;rw [l6 rfl] at hu Ll;simp only [Tm.n,Tm.i,Tm.j,Tm.kids] at hu Ll;cases hb:B n i j with
  |none=>rw [hb] at hu;cases hu
  |some q=>
   rw [hb,Option.map_some,q_b] at hu Ll;subst hu Ll;refine Bhx (C:=C) hB hp.rev (fun t ht=>?_) (hB _ _ _ _ hb);obtain⟨p,hp'⟩:=List.getElem?_of_mem (List.mem_reverse.1 ht);have:=h.kid hp'
   rwa [bnd23,Nat.add_zero] at this
 ·rw [Sq (by simp only [Tm.k];omega)] at hu;cases hu
mutual
def cd (B:BT):Tm->Tm
 |.mk k i j n l=>if k=2\/k=0 then .mk k i j n l else if (Bw B (.mk k i j n l)).isSome then (Bw B (.mk k i j n (cdL B l))).getD (vT 0) else .mk k i j n (cdL B l)
def cdL (B:BT):List Tm->List Tm
 |[]=>[]
 |t::l=>cd B t::cdL B l
end
theorem Ano:∀l:List Tm,cdL B l=l.map (cd B):=by
 intro l
 induction l with
 |nil=>rfl
 |cons t l ih=>rw [cdL,ih];rfl
theorem Bg7 (hB:Oa B) {t u:Tm} (h:Par B t u):∀{C:Nat},Sf C t->Par B u (cd B t):=by
 have key:∀{k i j n:Int} {l l':List Tm} {C:Nat},k≠2->k≠0->ParL B l l'->Sf C (.mk k i j n l)->(∀(p:Nat) t t',l[p]?=some t->l'[p]?=some t'->∀{C:Nat},Sf C t->Par B t' (cd B t)) ->
   Sf C (.mk k i j n l')/\ParL B l' (cdL B l)/\((Bw B (.mk k i j n l)).isSome=true->(Bw B (.mk k i j n l')).isSome=true/\Bw B (.mk k i j n (cdL B l))=some (cd B (.mk k i j n l)))/\(¬(Bw B (.mk k i j n l)).isSome=true->cd B (.mk k i j n l)=.mk k i j n (cdL B l)):=by
  intro k i j n l l' C h2 h0 hp h ih;have f6:Sf C (.mk k i j n l'):=Ae0 h h2 hp.1 (fun p t ht=>by obtain⟨s,hs⟩:=Abl hp.1 ht;exact Abh hB (hp.2 p s t hs ht) (h.kid hs));have hL:ParL B l' (cdL B l):=by
   refine⟨by rw [Ano,q_g,hp.1],fun p t' c Rl hc=>?_⟩;rw [Ano,List.getElem?_map] at hc;obtain⟨s,hs,rfl⟩:=Option.map_eq_some_iff.1 hc;exact ih p s t' hs Rl (h.kid hs)
  refine⟨f6,hL,fun hr=>?_,fun hr=>?_⟩
  ·have r1:=Bha h hp hr;have r2:=Bha f6 hL r1;refine⟨r1,?_⟩;rw [cd,if_neg (by omega),if_pos hr];obtain⟨c,hc⟩:=Option.isSome_iff_exists.1 r2;rw [hc];rfl
  ·rw [cd,if_neg (by omega),if_neg hr]
 induction h with
 |var i=>intro C _;unfold vT;rw [cd,if_pos (.inl rfl)];exact .var i
 |@nd k i j n l l' h2 h0 hl hk ih=>
  intro C h;obtain⟨f6,hL,q1,q2⟩:=key h2 h0 ⟨hl,hk⟩ h ih
  by_cases hr:(Bw B (.mk k i j n l)).isSome=true
  ·obtain⟨r1,r2⟩:=q1 hr;exact .st h2 h0 hL.1 hL.2 r1 r2
  ·rw [q2 hr];exact .nd h2 h0 hL.1 hL.2
 |@st k i j n l l' u h2 h0 hl hk hr hu ih=>
  intro C h;obtain⟨f6,hL,q1,q2⟩:=key h2 h0 ⟨hl,hk⟩ h ih;obtain⟨_,r2⟩:=q1 hr;exact Bhz hB f6 hL hu r2
inductive Prs (B:BT):Tm->Tm->Prop
 |refl (t:Tm):Prs B t t
 |step {t u w:Tm} (h:Par B t u) (hr:Prs B u w):Prs B t w
theorem Prs.trans {t u w:Tm} (h:Prs B t u) (k:Prs B u w):Prs B t w:=by
 induction h with
 |refl=>exact k
 |step h _ ih=>exact .step h (ih k)
theorem Bhd (hB:Oa B) {t u:Tm} (h:Prs B t u):Sf C t->Sf C u:=by
 induction h with
 |refl=>exact id
 |step h _ ih=>exact fun hs=>ih (Abh hB h hs)
theorem strip (hB:Oa B) {t w:Tm} (h:Prs B t w):∀{u:Tm},Sf C t->Par B t u->∃x,Prs B u x/\Par B w x:=by
 induction h with
 |refl t=>intro u _ h;exact⟨u,.refl u,h⟩
 |step h1 _ ih=>
  intro u hs h;obtain⟨x,k1,k2⟩:=ih (Abh hB h1 hs) (Bg7 hB h1 hs);exact⟨x,.step (Bg7 hB h hs) k1,k2⟩
theorem confl (hB:Oa B) {t u:Tm} (h:Prs B t u):∀{w:Tm},Sf C t->Prs B t w->∃x,Prs B u x/\Prs B w x:=by
 induction h with
 |refl t=>intro w _ h;exact⟨w,h,.refl w⟩
 |step h1 _ ih=>
  intro w hs h;obtain⟨y,k1,k2⟩:=strip hB h hs h1;obtain⟨x,k3,k4⟩:=ih (Abh hB h1 hs) k1;exact⟨x,k3,.step k2 k4⟩
inductive Nm (B:BT):Tm->Prop
 |mk {t:Tm} (h:Bw B t=none) (hk:∀(p:Nat) s,t.kids[p]?=some s->Nm B s):Nm B t
theorem Bht {t u:Tm} (h:Par B t u):Nm B t->u=t:=by
 induction h with
 |var=>intro _;rfl
 |@nd k i j n l l' h2 h0 hl hk ih=>
  intro hn;cases hn with
  |mk h hs=>
   congr 1;apply List.ext_getElem?;intro p;cases hp:l'[p]? with
   |none=>
    have:=List.getElem?_eq_none_iff.1 hp;rw [List.getElem?_eq_none (by omega)]
   |some s'=>
    obtain⟨s,Me⟩:=Abl hl hp;rw [Me,ih p s s' Me hp (hs p s Me)]
 |st h2 h0 hl hk hr hu ih=>
  intro hn;cases hn with
  |mk h hs=>rw [h] at hr;cases hr
theorem Bg3 {t u:Tm} (h:Prs B t u):Nm B t->u=t:=by
 induction h with
 |refl=>intro _;rfl
 |step h _ ih=>
  intro hn;have:=Bht h hn;subst this;exact ih hn
theorem Bhs (hB:Oa B) {t x z:Tm} (hs:Sf C t) (h1:Prs B t x) (h2:Prs B t z) (n1:Nm B x) (n2:Nm B z):x=z:=by
 obtain⟨w,k1,k2⟩:=confl hB h1 hs h2;exact (Bg3 k1 n1).symm.trans (Bg3 k2 n2)
end
end Go.Proofs.YtdpigpopcbjkmaaGreatDoor.Abs
