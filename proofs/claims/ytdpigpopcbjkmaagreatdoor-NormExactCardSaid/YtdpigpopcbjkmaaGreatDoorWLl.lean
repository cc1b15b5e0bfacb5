import Derived.Laws.FloatArith
import Derived.Test.YtdpigpopcbjkmaaGreatDoorProg
import Derived.Test.YtdpigpopcbjkmaaGreatDoorChecked
import Derived.WalkKit
import Derived.WalkLawsBesides
import Derived.Test.YtdpigpopcbjkmaaGreatDoorWUd
import Derived.Test.YtdpigpopcbjkmaaGreatDoorWMk
import Derived.Test.YtdpigpopcbjkmaaGreatDoorWTh
import Derived.Test.YtdpigpopcbjkmaaGreatDoorWPt
import Derived.Test.YtdpigpopcbjkmaaGreatDoorWTs
import Derived.Test.YtdpigpopcbjkmaaGreatDoorWPi
import Derived.Test.YtdpigpopcbjkmaaGreatDoorWAby
import Derived.Handed
set_option linter.unusedSimpArgs false
set_option linter.unusedVariables false
set_option maxRecDepth 20000
set_option maxHeartbeats 4000000
namespace Go.Proofs.YtdpigpopcbjkmaaGreatDoor.Flt
def rung (x:Nat):Nat:=x % 9223372036854775808
def isNeg (x:Nat):Bool:=x / 9223372036854775808 % 2==1
def skey (x:Nat):Int:=if isNeg x then -(rung x:Int) else (rung x:Int)
def nanB (x:Nat):Bool:=decide (9218868437227405312<rung x)
def ord (x y:Nat):Option Ordering:=FloatKind.f64.format.order x y
def V (r:Nat):Nat:=if r<4503599627370496 then r else (4503599627370496+r % 4503599627370496)*2 ^ (r / 4503599627370496-1)
theorem Ajo (r:Nat):V r<V (r+1):=by
 unfold V
 by_cases h:r+1<4503599627370496
 ·rw [if_pos (by omega),if_pos h];omega
 ·by_cases h2:r<4503599627370496
  ·rw [if_pos h2,if_neg h]
   have:r=4503599627370495:=by omega
   subst this;decide
  ·rw [if_neg h2,if_neg h]
   by_cases h3:r % 4503599627370496=4503599627370495
   ·have e1:(r+1) % 4503599627370496=0:=by omega
    have e2:(r+1) / 4503599627370496-1=(r / 4503599627370496-1)+1:=by omega
    rw [e1,e2,h3,Nat.pow_succ]
    have:0<2 ^ (r / 4503599627370496-1):=Nat.two_pow_pos _
    omega
   ·have e1:(r+1) % 4503599627370496=r % 4503599627370496+1:=by omega
    have e2:(r+1) / 4503599627370496=r / 4503599627370496:=by omega
    rw [e1,e2]
    exact Nat.mul_lt_mul_of_pos_right (by omega) (Nat.two_pow_pos _)
theorem V_lt {r s:Nat} (h:r<s):V r<V s:=by
 induction s with
 |zero=>omega
 |succ s ih=>
  rcases Nat.lt_or_ge r s with h1|h1
  ·exact Nat.lt_trans (ih h1) (Ajo s)
  ·have:r=s:=by omega
   subst this;exact Ajo r
theorem A2k (a b:Int) (r s:Nat) (x y:Int)
  (hx:(a=V r∧x=r)∨(a=-(V r:Int)∧x=-(r:Int))) (hy:(b=V s∧y=s)∨(b=-(V s:Int)∧y=-(s:Int))):compare a b=compare x y:=by
 have V0:V 0=0:=by decide
 have pos:∀t:Nat,0<t→0<V t:=fun t ht=>by have:=V_lt ht;omega
 have hr:=pos r
 have hs:=pos s
 have hrs:r<s→V r<V s:=V_lt
 have hsr:s<r→V s<V r:=V_lt
 have e0:r=0→V r=0:=by rintro rfl;exact V0
 have f0:s=0→V s=0:=by rintro rfl;exact V0
 have ee:r=s→V r=V s:=by rintro rfl;rfl
 generalize V r=p at *
 generalize V s=q at *
 have key:(a<b↔x<y)∧(a=b↔x=y):=by
  rcases hx with⟨h1,h2⟩|⟨h1,h2⟩<;>rcases hy with⟨h3,h4⟩|⟨h3,h4⟩<;>constructor<;>omega
 simp only [compare,compareOfLessAndEq,key.1,key.2]
def E (r:Nat):Nat:=if r<4503599627370496 then 0 else r / 4503599627370496-1
def M (r:Nat):Nat:=if r<4503599627370496 then r else 4503599627370496+r % 4503599627370496
theorem V_eq (r:Nat):V r=M r*2 ^ E r:=by
 unfold V M E;split<;>simp
theorem Xs (x:Nat) (h:rung x<9218868437227405312):FloatKind.f64.format.read x=.number (isNeg x) (M (rung x)) (-1074+(E (rung x):Int)):=by
 show Ieee.Format.read Ieee.double x=_
 unfold Ieee.Format.read
 have e1:Ieee.double.signWeight=9223372036854775808:=by decide
 have e2:Ieee.double.binade=4503599627370496:=by decide
 have e3:Ieee.double.infRung=9218868437227405312:=by decide
 have e4:Ieee.double.leastPlace=-1074:=by decide
 simp only [e1,e2,e3,e4]
 unfold rung at h
 unfold M E rung isNeg
 by_cases h1:x % 9223372036854775808<4503599627370496
 ·simp [h1]
 ·simp [h1,h]
theorem s9 (x:Nat) (h:rung x=9218868437227405312):FloatKind.f64.format.read x=.infinity (isNeg x):=by
 show Ieee.Format.read Ieee.double x=_
 unfold Ieee.Format.read
 have e1:Ieee.double.signWeight=9223372036854775808:=by decide
 have e2:Ieee.double.binade=4503599627370496:=by decide
 have e3:Ieee.double.infRung=9218868437227405312:=by decide
 simp only [e1,e2,e3]
 unfold rung at h
 rw [h]
 simp [isNeg]
theorem Ak4 (x:Nat) (h:9218868437227405312<rung x):FloatKind.f64.format.read x=.nan (isNeg x) (rung x-9218868437227405312):=by
 show Ieee.Format.read Ieee.double x=_
 unfold Ieee.Format.read
 have e1:Ieee.double.signWeight=9223372036854775808:=by decide
 have e2:Ieee.double.binade=4503599627370496:=by decide
 have e3:Ieee.double.infRung=9218868437227405312:=by decide
 simp only [e1,e2,e3]
 unfold rung at h ⊢
 rw [if_neg (by omega),if_neg (by omega),if_neg (by omega)]
 rfl
theorem cmp_lt {a b:Int} (h:a<b):compare a b=.lt:=by simp [compare,compareOfLessAndEq,h]
theorem cmp_gt {a b:Int} (h:b<a):compare a b=.gt:=by
 have h1:¬a<b:=by omega
 have h2:¬a=b:=by omega
 simp [compare,compareOfLessAndEq,h1,h2]
theorem cmp_eq {a b:Int} (h:a=b):compare a b=.eq:=by simp [compare,compareOfLessAndEq,h]
theorem A8y (a b:Int) (k:Nat) (hk:0<k):compare (a*k) (b*k)=compare a b:=by
 have hk':(0:Int)<k:=by omega
 have h1:a*k<b*k↔a<b:=⟨fun h=>Int.lt_of_mul_lt_mul_right h (by omega),fun h=>Int.mul_lt_mul_of_pos_right h hk'⟩
 have h2:a*k=b*k↔a=b:=⟨fun h=>Int.eq_of_mul_eq_mul_right (by omega) h,fun h=>by rw [h]⟩
 simp only [compare,compareOfLessAndEq,h1,h2]
theorem Akd (s:Bool) (m u k:Nat):Ieee.signed s m u*((2 ^ k:Nat):Int)=Ieee.signed s m (u+k):=by
 unfold Ieee.signed
 have:((m <<< u:Nat):Int)*((2 ^ k:Nat):Int)=((m <<< (u+k):Nat):Int):=by
  rw [Nat.shiftLeft_eq,Nat.shiftLeft_eq,Nat.pow_add,←Nat.mul_assoc]
  exact (Int.natCast_mul _ _).symm
 cases s<;>simp only [Bool.false_eq_true,if_false,if_true]
 ·exact this
 ·rw [Int.neg_mul,this]
theorem Ajj (x:Nat):Ieee.signed (isNeg x) (M (rung x)) (E (rung x))=if isNeg x then -(V (rung x):Int) else (V (rung x):Int):=by
 unfold Ieee.signed
 rw [Nat.shiftLeft_eq,←V_eq]
theorem ord_skey (x y:Nat) (hx:nanB x=false) (hy:nanB y=false):ord x y=some (compare (skey x) (skey y)):=by
 have Bx:rung x≤9218868437227405312:=by simpa [nanB] using hx
 have hy':rung y≤9218868437227405312:=by simpa [nanB] using hy
 unfold ord Ieee.Format.order
 rcases Nat.lt_or_ge (rung x) 9218868437227405312 with h1|h1<;>rcases Nat.lt_or_ge (rung y) 9218868437227405312 with h2|h2
 ·rw [Xs x h1,Xs y h2]
  simp only [Ieee.Datum.order]
  congr 1
  have hb:∀e f:Nat,(-1074+(e:Int)-min (-1074+(e:Int)) (-1074+(f:Int))).toNat+min e f=e:=by intro e f;omega
  have Fh:∀e f:Nat,(-1074+(f:Int)-min (-1074+(e:Int)) (-1074+(f:Int))).toNat+min e f=f:=by intro e f;omega
  rw [←A8y _ _ (2 ^ min (E (rung x)) (E (rung y))) (Nat.two_pow_pos _),Akd,Akd,hb,Fh,Ajj,Ajj]
  refine A2k _ _ (rung x) (rung y) _ _ ?_ ?_
  ·unfold skey;cases isNeg x<;>simp
  ·unfold skey;cases isNeg y<;>simp
 ·have Ir:rung y=9218868437227405312:=by omega
  rw [Xs x h1,s9 y Ir]
  simp only [Ieee.Datum.order]
  congr 1
  unfold skey
  rw [Ir]
  cases isNeg y<;>cases isNeg x<;>first|exact (cmp_lt (by simp;omega)).symm|exact (cmp_gt (by simp;omega)).symm
 ·have Nb:rung x=9218868437227405312:=by omega
  rw [Xs y h2,s9 x Nb]
  simp only [Ieee.Datum.order]
  congr 1
  unfold skey
  rw [Nb]
  cases isNeg x<;>cases isNeg y<;>first|exact (cmp_lt (by simp;omega)).symm|exact (cmp_gt (by simp;omega)).symm
 ·have Nb:rung x=9218868437227405312:=by omega
  have Ir:rung y=9218868437227405312:=by omega
  rw [s9 x Nb,s9 y Ir]
  simp only [Ieee.Datum.order]
  congr 1
  unfold skey
  rw [Nb,Ir]
  cases isNeg x<;>cases isNeg y<;>decide
theorem ord_nan_left (x y:Nat) (hx:nanB x=true):ord x y=none:=by
 have Bx:9218868437227405312<rung x:=by simpa [nanB] using hx
 unfold ord Ieee.Format.order
 rw [Ak4 x Bx]
 rfl
theorem ord_nan_right (x y:Nat) (hy:nanB y=true):ord x y=none:=by
 have hy':9218868437227405312<rung y:=by simpa [nanB] using hy
 unfold ord Ieee.Format.order
 rw [Ak4 y hy']
 cases FloatKind.f64.format.read x<;>rfl
end Go.Proofs.YtdpigpopcbjkmaaGreatDoor.Flt
namespace Go.Proofs.YtdpigpopcbjkmaaGreatDoor.Flt
open Go Go.RowKit
def rg (m:Nat):Nat:=((m.log2:Int)-52+1074).toNat*4503599627370496+Ieee.Toward.even.cut false (m <<< (0-((m.log2:Int)-52)).toNat) ((m.log2:Int)-52-0).toNat
def R (m:Nat):Nat:=if m=0 then 0 else min (rg m) 9218868437227405312
theorem Auj (s t:Bool) (n d:Nat):Ieee.Toward.even.cut s n d=Ieee.Toward.even.cut t n d:=rfl
theorem A6v (neg:Bool) (m:Nat):Ieee.double.nearest neg m 0=Ieee.double.word neg (R m):=by
 unfold Ieee.Format.nearest R
 by_cases h:m=0
 ·rw [if_pos h,if_pos h]
 ·rw [if_neg h,if_neg h]
  have e2:Ieee.double.binade=4503599627370496:=by decide
  have e3:Ieee.double.infRung=9218868437227405312:=by decide
  have e4:Ieee.double.leastPlace=-1074:=by decide
  have e5:(Ieee.double.fractionBits:Int)=52:=by decide
  simp only [e2,e3,e4,e5]
  have el:max ((0:Int)+(m.log2:Int)-52) (-1074)=(m.log2:Int)-52:=by omega
  rw [el]
  unfold rg
  rw [show (m.log2:Int)-52 - -1074=(m.log2:Int)-52+1074 by omega,Auj neg false]
theorem A7q (n:Nat):Ieee.Toward.even.cut false n 0=n:=by
 unfold Ieee.Toward.cut
 simp [Nat.mod_one]
theorem R_le (m:Nat):R m≤9218868437227405312:=by
 unfold R;split<;>omega
theorem Ab5 (neg:Bool) {r:Nat} (h:r≤9218868437227405312):rung (Ieee.double.word neg r)=r∧isNeg (Ieee.double.word neg r)=neg:=by
 have e1:Ieee.double.signWeight=9223372036854775808:=by decide
 unfold Ieee.Format.word rung isNeg
 rw [e1]
 cases neg
 ·simp only [Bool.false_eq_true,if_false]
  refine⟨by omega,?_⟩
  have:r / 9223372036854775808=0:=by omega
  rw [this];rfl
 ·simp only [if_true]
  refine⟨by omega,?_⟩
  have:(9223372036854775808+r) / 9223372036854775808=1:=by omega
  rw [this];rfl
theorem Ay8 (neg:Bool) {r:Nat} (h:r≤9218868437227405312):nanB (Ieee.double.word neg r)=false:=by
 unfold nanB
 rw [(Ab5 neg h).1]
 simpa using h
theorem Akb (n:Int):floatOfInt .f64 n=Ieee.double.word (n<0) (R n.natAbs):=A6v _ _
theorem ofInt_nan (n:Int):nanB (floatOfInt .f64 n)=false:=by rw [Akb];exact Ay8 _ (R_le _)
theorem ofInt_key (n:Int):skey (floatOfInt .f64 n)=if n<0 then -(R n.natAbs:Int) else (R n.natAbs:Int):=by
 rw [Akb]
 unfold skey
 rw [(Ab5 _ (R_le _)).1,(Ab5 _ (R_le _)).2]
 by_cases h:n<0<;>simp [h]
end Go.Proofs.YtdpigpopcbjkmaaGreatDoor.Flt
namespace Go.Proofs.YtdpigpopcbjkmaaGreatDoor.Flt
def cc:Nat:=1074
def U:Nat:=2 ^ cc
theorem U_eq {x:Nat} (h:x=1074):2 ^ x=U:=by
 have:x=cc:=h
 rw [this,U]
theorem U_pos:0<U:=Nat.two_pow_pos cc
theorem A0x (s:Bool) (n d:Nat):Ieee.Toward.zero.cut s n d=n / 2 ^ d:=by
 unfold Ieee.Toward.cut
 simp only [Bool.toNat_false,Nat.add_zero,Nat.one_shiftLeft]
 rcases Nat.le_total d (n.log2+2) with h|h
 ·rw [Nat.min_eq_left h]
 ·rw [Nat.min_eq_right h]
  have h1:n<2 ^ (n.log2+2):=by
   rcases Nat.eq_zero_or_pos n with rfl|hn
   ·exact Nat.two_pow_pos _
   ·have:=Nat.lt_log2_self (n:=n)
    rw [Nat.pow_succ]
    omega
  have h2:n<2 ^ d:=Nat.lt_of_lt_of_le h1 (Nat.pow_le_pow_right (by decide) h)
  rw [Nat.div_eq_of_lt h1,Nat.div_eq_of_lt h2]
theorem toInt_pos (b:Nat) (h:rung b<9218868437227405312) (hn:isNeg b=false):(FloatKind.f64.decode b).toInt .zero=some ((V (rung b) / U:Nat):Int):=by
 rw [show FloatKind.f64.decode b=_ from Xs b h]
 unfold Ieee.Datum.toInt Ieee.Datum.integral
 simp only [hn,A0x]
 unfold Ieee.signed
 simp only [Bool.false_eq_true,if_false,Nat.shiftLeft_zero]
 congr 2
 rw [V_eq,Nat.shiftLeft_eq]
 generalize M (rung b)=m
 generalize E (rung b)=e
 rcases Nat.le_total 1074 e with h1|h1
 ·rw [show (-(-1074+(e:Int))).toNat=0 by omega,show (-1074+(e:Int)).toNat=e-1074 by omega,Nat.pow_zero,Nat.div_one]
  have:2 ^ e=2 ^ (e-1074)*U:=by rw [←U_eq (x:=cc) rfl,←Nat.pow_add];congr 1;have:cc=1074:=rfl;omega
  rw [this,←Nat.mul_assoc,Nat.mul_div_cancel _ U_pos]
 ·rw [show (-(-1074+(e:Int))).toNat=1074-e by omega,show (-1074+(e:Int)).toNat=0 by omega,Nat.pow_zero,Nat.mul_one]
  have:U=2 ^ (1074-e)*2 ^ e:=by rw [←Nat.pow_add,U_eq (by omega)]
  rw [this,Nat.mul_div_mul_right _ _ (Nat.two_pow_pos e)]
theorem V_R (n:Nat) (h0:n≠0) (hn:n<9007199254740992):R n<9218868437227405312∧V (R n)=n*U:=by
 have hl:n.log2≤52:=by
  have:=(Nat.log2_lt h0 (k:=53)).2 (by omega)
  omega
 have h1:2 ^ n.log2≤n:=Nat.log2_self_le h0
 have h2:n<2 ^ (n.log2+1):=Nat.lt_log2_self
 have e52:(2:Nat) ^ 52=2 ^ n.log2*2 ^ (52-n.log2):=by rw [←Nat.pow_add];congr 1;omega
 have hp:=Nat.two_pow_pos (52-n.log2)
 have lo:4503599627370496≤n*2 ^ (52-n.log2):=by
  have:=Nat.mul_le_mul_right (2 ^ (52-n.log2)) h1
  rw [←e52] at this
  exact this
 have hi:n*2 ^ (52-n.log2)<9007199254740992:=by
  have:=Nat.mul_lt_mul_of_pos_right h2 hp
  rw [Nat.pow_succ,Nat.mul_right_comm,←e52] at this
  exact this
 have hR:rg n=(n.log2+1022)*4503599627370496+n*2 ^ (52-n.log2):=by
  unfold rg
  rw [show ((n.log2:Int)-52-0).toNat=0 by omega,A7q,Nat.shiftLeft_eq,show (0-((n.log2:Int)-52)).toNat=52-n.log2 by omega,show ((n.log2:Int)-52+1074).toNat=n.log2+1022 by omega]
 have hRR:R n=rg n:=by
  unfold R
  rw [if_neg h0,hR]
  omega
 rw [hRR,hR]
 refine⟨by omega,?_⟩
 have hd:((n.log2+1022)*4503599627370496+n*2 ^ (52-n.log2)) / 4503599627370496=n.log2+1023:=by omega
 have hm:((n.log2+1022)*4503599627370496+n*2 ^ (52-n.log2)) % 4503599627370496=n*2 ^ (52-n.log2)-4503599627370496:=by omega
 unfold V
 rw [if_neg (by omega),hd,hm,show 4503599627370496+(n*2 ^ (52-n.log2)-4503599627370496)=n*2 ^ (52-n.log2) by omega,Nat.mul_assoc,←Nat.pow_add,U_eq (by omega)]
theorem V_le {r s:Nat} (h:r≤s):V r≤V s:=by
 rcases Nat.lt_or_ge r s with h1|h1
 ·exact Nat.le_of_lt (V_lt h1)
 ·rw [show r=s by omega];exact Nat.le_refl _
theorem le_cut {b n:Nat} (hb:nanB b=false) (h0:n≠0) (hn:n<9007199254740992) (h:skey (floatOfInt .f64 n)≤skey b):isNeg b=false∧n≤V (rung b) / U:=by
 obtain⟨h1,h2⟩:=V_R n h0 hn
 have hk:=ofInt_key (n:Int)
 rw [if_neg (by omega),Int.natAbs_natCast] at hk
 rw [hk] at h
 have Ci:0<R n:=by
  rcases Nat.eq_zero_or_pos (R n) with e|e
  ·rw [e] at h2
   have:0<n*U:=Nat.mul_pos (by omega) U_pos
   have h3:V 0=0:=by decide
   omega
  ·exact e
 unfold skey at h
 cases d9:isNeg b with
 |true=>rw [d9,if_pos rfl] at h;omega
 |false=>
  rw [d9,if_neg (by decide)] at h
  refine⟨rfl,?_⟩
  have hle:V (R n)≤V (rung b):=V_le (by omega)
  rw [h2] at hle
  exact (Nat.le_div_iff_mul_le U_pos).2 hle
theorem cut_lt {b n:Nat} (h0:n≠0) (hn:n<9007199254740992) (hp:isNeg b=false) (h:skey b<skey (floatOfInt .f64 n)):rung b<9218868437227405312∧V (rung b) / U<n:=by
 obtain⟨h1,h2⟩:=V_R n h0 hn
 have hk:=ofInt_key (n:Int)
 rw [if_neg (by omega),Int.natAbs_natCast] at hk
 rw [hk] at h
 unfold skey at h
 rw [hp,if_neg (by decide)] at h
 have Ab:=V_lt (show rung b<R n by omega)
 rw [h2] at Ab
 exact⟨by omega,(Nat.div_lt_iff_lt_mul U_pos).2 Ab⟩
end Go.Proofs.YtdpigpopcbjkmaaGreatDoor.Flt
namespace Go.Proofs.YtdpigpopcbjkmaaGreatDoor.Nrm
open Go Go.RowKit
def within (n:Int) (m:Nat):Bool:=FloatKind.f64.format.order (floatOfInt .f64 n) m==some Ordering.lt || FloatKind.f64.format.order (floatOfInt .f64 n) m==some Ordering.eq
theorem rwithin_any (n:Int) (m:Nat) (w:World) :
  Calls Tryz.prog 28 #[.int .i64 n,.float .f64 m] w fun e w'=>e=.returned (.bool (within n m))∧w'=w:=by
 go_enter Tryz.func28,Tryz.ntmps28
 go_wp2
 go_ret
 exact⟨rfl,rfl⟩
theorem Avj (b n:Nat) (h:(FloatKind.f64.decode b).toInt .zero=some (n:Int)) (hn:n<9223372036854775808) (w:World):(convert 25 3 (.float .f64 b)).run Tryz.prog w=.ok (.int .i64 n) w:=by
 have hk:(convert 25 3 (.float .f64 b)).run Tryz.prog w=(Conv.floatToInt .f64 b .i64).run Tryz.prog w:=by kernel_rfl
 rw [hk]
 unfold Conv.floatToInt
 rw [h]
 have h1:IntKind.i64.min≤(n:Int)∧(n:Int)≤IntKind.i64.max:=by
  have e1:IntKind.i64.min=-9223372036854775808:=by decide
  have e2:IntKind.i64.max=9223372036854775807:=by decide
  rw [e1,e2];omega
 simp only [h1,and_self,if_true]
 rfl
def big:Nat:=4741671816366391296
theorem Bba (b n:Nat) (h0:Flt.nanB b=false) (h1:¬Flt.skey b≤0) (h2:Flt.skey b<Flt.skey big) (h:(FloatKind.f64.decode b).toInt .zero=some (n:Int)) (hn:n<9223372036854775808) (w:World) :
  Calls Tryz.prog 34 #[.float .f64 b] w fun e w'=>e=.returned (.int .i64 n)∧w'=w:=by
 have hc:=Avj b n h hn
 have o1:FloatKind.f64.format.order b b=some .eq:=by rw [show FloatKind.f64.format.order b b=Flt.ord b b from rfl,Flt.ord_skey b b h0 h0,Flt.cmp_eq rfl]
 have o2:FloatKind.f64.format.order b 0=some .gt:=by rw [show FloatKind.f64.format.order b 0=Flt.ord b 0 from rfl,Flt.ord_skey b 0 h0 (by decide),Flt.cmp_gt (by rw [show Flt.skey 0=0 by decide];omega)]
 have o3:FloatKind.f64.format.order b 4741671816366391296=some .lt:=by rw [show FloatKind.f64.format.order b 4741671816366391296=Flt.ord b big from rfl,Flt.ord_skey b _ h0 (by decide),Flt.cmp_lt h2]
 go_enter Tryz.func34,Tryz.ntmps34
 go_wp2
 all_goals
  go_ret
  exact⟨rfl,rfl⟩
theorem A0f (b:Nat) (h0:Flt.nanB b=true) (w:World):Calls Tryz.prog 34 #[.float .f64 b] w fun e w'=>e=.returned (.int .i64 (0:Nat))∧w'=w:=by
 have o1:FloatKind.f64.format.order b b=none:=by rw [show FloatKind.f64.format.order b b=Flt.ord b b from rfl,Flt.ord_nan_left b b h0]
 go_enter Tryz.func34,Tryz.ntmps34
 go_wp2
 all_goals
  go_ret
  exact⟨rfl,rfl⟩
theorem Axe (b:Nat) (h0:Flt.nanB b=false) (h1:Flt.skey b≤0) (w:World):Calls Tryz.prog 34 #[.float .f64 b] w fun e w'=>e=.returned (.int .i64 (0:Nat))∧w'=w:=by
 have o1:FloatKind.f64.format.order b b=some .eq:=by rw [show FloatKind.f64.format.order b b=Flt.ord b b from rfl,Flt.ord_skey b b h0 h0,Flt.cmp_eq rfl]
 rcases Int.lt_or_eq_of_le h1 with h1|h1
 ·have o2:FloatKind.f64.format.order b 0=some .lt:=by rw [show FloatKind.f64.format.order b 0=Flt.ord b 0 from rfl,Flt.ord_skey b 0 h0 (by decide),Flt.cmp_lt (by rw [show Flt.skey 0=0 by decide];omega)]
  go_enter Tryz.func34,Tryz.ntmps34
  go_wp2
  all_goals
   go_ret
   exact⟨rfl,rfl⟩
 ·have o2:FloatKind.f64.format.order b 0=some .eq:=by rw [show FloatKind.f64.format.order b 0=Flt.ord b 0 from rfl,Flt.ord_skey b 0 h0 (by decide),Flt.cmp_eq (by rw [show Flt.skey 0=0 by decide];omega)]
  go_enter Tryz.func34,Tryz.ntmps34
  go_wp2
  all_goals
   go_ret
   exact⟨rfl,rfl⟩
theorem Bcr (b:Nat) (h0:Flt.nanB b=false) (h1:Flt.skey big≤Flt.skey b) (w:World):Calls Tryz.prog 34 #[.float .f64 b] w fun e w'=>e=.returned (.int .i64 (1000000000:Nat))∧w'=w:=by
 have o1:FloatKind.f64.format.order b b=some .eq:=by rw [show FloatKind.f64.format.order b b=Flt.ord b b from rfl,Flt.ord_skey b b h0 h0,Flt.cmp_eq rfl]
 have hb:(0:Int)<Flt.skey big:=by decide
 have o2:FloatKind.f64.format.order b 0=some .gt:=by rw [show FloatKind.f64.format.order b 0=Flt.ord b 0 from rfl,Flt.ord_skey b 0 h0 (by decide),Flt.cmp_gt (by rw [show Flt.skey 0=0 by decide];omega)]
 rcases Int.lt_or_eq_of_le h1 with h1|h1
 ·have o3:FloatKind.f64.format.order b 4741671816366391296=some .gt:=by rw [show FloatKind.f64.format.order b 4741671816366391296=Flt.ord b big from rfl,Flt.ord_skey b _ h0 (by decide),Flt.cmp_gt h1]
  go_enter Tryz.func34,Tryz.ntmps34
  go_wp2
  all_goals
   go_ret
   exact⟨rfl,rfl⟩
 ·have o3:FloatKind.f64.format.order b 4741671816366391296=some .eq:=by rw [show FloatKind.f64.format.order b 4741671816366391296=Flt.ord b big from rfl,Flt.ord_skey b _ h0 (by decide),Flt.cmp_eq h1.symm]
  go_enter Tryz.func34,Tryz.ntmps34
  go_wp2
  all_goals
   go_ret
   exact⟨rfl,rfl⟩
theorem Acj {n:Int} {b:Nat} (h:within n b=true):Flt.nanB b=false∧Flt.skey (floatOfInt .f64 n)≤Flt.skey b:=by
 have hn:=Flt.ofInt_nan n
 cases hb:Flt.nanB b with
 |true=>
  have:FloatKind.f64.format.order (floatOfInt .f64 n) b=none:=Flt.ord_nan_right _ b hb
  simp [within,this] at h
 |false=>
  refine⟨rfl,?_⟩
  have ho:FloatKind.f64.format.order (floatOfInt .f64 n) b=some (compare (Flt.skey (floatOfInt .f64 n)) (Flt.skey b)):=Flt.ord_skey _ b hn hb
  rcases Int.lt_trichotomy (Flt.skey (floatOfInt .f64 n)) (Flt.skey b) with h1|h1|h1
  ·omega
  ·omega
  ·rw [Flt.cmp_gt h1] at ho
   simp [within,ho] at h
theorem limit_all (b:Nat):∃L:Nat,L≤1000000000∧(∀w:World,Calls Tryz.prog 34 #[.float .f64 b] w fun e w'=>e=.returned (.int .i64 L)∧w'=w)∧∀n:Nat,n≤1000000000→within n b=true→n≤L:=by
 have Nn:big=floatOfInt .f64 (1000000000:Nat):=by decide +kernel
 cases h0:Flt.nanB b with
 |true=>exact⟨0,by omega,A0f b h0,fun n _ h=>by rw [(Acj h).1] at h0;cases h0⟩
 |false=>
  by_cases h1:Flt.skey b≤0
  ·refine⟨0,by omega,Axe b h0 h1,fun n hn h=>?_⟩
   by_cases hz:n=0
   ·omega
   ·have hle:=(Acj h).2
    have:=Flt.le_cut h0 hz (by omega) hle
    obtain⟨k1,k2⟩:=Flt.V_R n hz (by omega)
    have hk:=Flt.ofInt_key (n:Int)
    rw [if_neg (by omega),Int.natAbs_natCast] at hk
    have Ci:Flt.R n=0:=by omega
    rw [Ci] at k2
    have:0<n*Flt.U:=Nat.mul_pos (by omega) Flt.U_pos
    have h3:Flt.V 0=0:=by decide
    omega
  ·by_cases h2:Flt.skey b<Flt.skey big
   ·have d9:Flt.isNeg b=false:=by
     cases h:Flt.isNeg b with
     |false=>rfl
     |true=>unfold Flt.skey at h1;rw [h,if_pos rfl] at h1;omega
    rw [Nn] at h2
    obtain⟨k1,k2⟩:=Flt.cut_lt (n:=1000000000) (by omega) (by omega) d9 h2
    rw [←Nn] at h2
    have k3:=Flt.toInt_pos b k1 d9
    have k4:∀n:Nat,n≤1000000000→within n b=true→n≤Flt.V (Flt.rung b) / Flt.U:=fun n hn h=>by
     by_cases hz:n=0
     ·rw [hz];exact Nat.zero_le _
     ·exact (Flt.le_cut h0 hz (by omega) (Acj h).2).2
    generalize Flt.V (Flt.rung b) / Flt.U=q at k2 k3 k4
    exact⟨q,by omega,Bba b q h0 h1 h2 k3 (by omega),k4⟩
   ·exact⟨1000000000,by omega,Bcr b h0 (by omega),fun n hn _=>hn⟩
end Go.Proofs.YtdpigpopcbjkmaaGreatDoor.Nrm
namespace Go.Proofs.YtdpigpopcbjkmaaGreatDoor.Abs
open Go Go.RowKit Go.Proofs.YtdpigpopcbjkmaaGreatDoor
theorem Arf {P:Program} {f:Nat} {args:List SV} {r:SV} {v:Value} (hr:∀m,Rep m v r) (h:∀(m:Mem) (w:World) (vs:List Value),vs.length=args.length→(∀(j:Nat) v x,vs[j]?=some v→args[j]?=some x→Rep m v x) →
  Calls P f vs.toArray w fun e w'=>e=.returned v∧w'=w):Contract P f args r:=by
 intro m w vs hm hl hp
 refine (h m w vs hl hp).mono ?_
 rintro e w' ⟨rfl,rfl⟩
 exact⟨_,m,rfl,hr m,⟨.refl m,rfl⟩,fun _ _ _=>rfl,hm,rfl,rfl,rfl,Nat.le_refl _,fun _ _=>rfl⟩
theorem A9z (b:Nat):∃L:Nat,L≤1000000000∧Con 34 [.float .f64 b] (.int .i64 L)∧∀n:Nat,n≤1000000000→Nrm.within n b=true→n≤L:=by
 obtain⟨L,h1,h2,h3⟩:=Nrm.limit_all b
 refine⟨L,h1,Arf (fun m=>.int _ _) (fun m w vs hl hr=>?_),h3⟩
 match vs,hl with
 |[v],_=>
  have h0:=hr 0 v _ rfl rfl
  cases h0
  exact h2 w
theorem Bf1 (n:Int) (b:Nat):Con 28 [.int .i64 n,.float .f64 b] (.bool (Nrm.within n b)):=by
 refine Arf (fun m=>.bool _) (fun m w vs hl hr=>?_)
 match vs,hl with
 |[v,u],_=>
  have h0:=hr 0 v _ rfl rfl
  have h1:=hr 1 u _ rfl rfl
  cases h0
  cases h1
  exact Nrm.rwithin_any n b w
theorem Bf3 {x:Tm} (hx:TOk x) (n:Int) (b:Nat):Con 15 [.agg true (tv x),.int .i64 0,.agg true (tv x),.int .i64 n,.float .f64 b] (.bool true):=by
 refine Al mixed Tryz.func15 tr15 ?_
 have hs:=Bdw x hx
 have h5:=Ag x
 generalize tv x=r at *
 repeat' first
  |simp (config:={ maxSteps:=2000000 }) only [go_sem,seval,h5]
  |refine Aa (hs) ?_
  |rfl
theorem Bf2 {x:Tm} (n:Int) (b:Nat) (h:Nrm.within n b=false):Con 15 [.agg true (tv zt),.int .i64 6,.agg true (tv x),.int .i64 n,.float .f64 b] (.bool true):=by
 refine Al mixed Tryz.func15 tr15 ?_
 have hw:=Bf1 n b
 rw [h] at hw
 have h5:=Ag x
 generalize tv x=r at *
 simp only [zt,Am,q_i]
 repeat' first
  |simp (config:={ maxSteps:=2000000 }) only [go_sem,seval,h5]
  |refine Aa (hw) ?_
  |rfl
theorem Aki {t x:Tm} {n:Nat} (ht:TOk t) (hp:PT 1048576 60 t) (hn:NR symT.B 0 (Ap [] 0 t) n x) (hx:tsz x≤4000) (hn4:n≤4000) (b:Nat) :
  Con 14 [.agg true (tv t),.float .f64 b] (.tup [.agg true (tv x),.int .i64 0])∨(Con 14 [.agg true (tv t),.float .f64 b] (.tup [.agg true (tv zt),.int .i64 6])∧Nrm.within n b=false):=by
 obtain⟨L,h1,h2,h3⟩:=A9z b
 have hd:=Pc t
 have hz:=hp.sz
 have hc:cap=1099511627776:=rfl
 rcases A3p Auu ht hp.pl ⟨1048576,hp.sf,by omega⟩ h2 h1 with⟨N,r,k1,k2⟩|⟨k1,k2⟩
 ·obtain⟨rfl,rfl⟩:=NR.det k1 hn
  exact .inl k2
 ·refine .inr ⟨k1,?_⟩
  have:=k2 n x hn
  cases hw:Nrm.within n b with
  |false=>rfl
  |true=>have:=h3 n (by omega) hw;omega
theorem Bf0 {t:Tm} (ht:TOk t) (b:Nat):Con 3 [.agg true (tv t),.float .f64 b] (.bool true):=by
 obtain⟨x,n,o,he,hx,hb⟩:=A1s plib ht
 refine Al mixed Tryz.func3 tr3 ?_
 have h5:=Ag t
 have h6:=Ag x
 have h7:=Ag zt
 cases o with
 |false=>
  generalize tv t=r at *
  generalize tv x=r1 at *
  repeat' first
   |simp (config:={ maxSteps:=2000000 }) only [go_sem,seval,h5,h6]
   |refine Aa (he) ?_
   |rfl
 |true=>
  obtain⟨hp,hw,hz,hn⟩:=hb rfl
  have Ib:=Ayq Av2 hw hp.sf
  rcases Aki ht hp Ib hz hn b with h|⟨h,hf⟩
  ·have hf:=Bf3 hx n b
   generalize tv t=r at *
   generalize tv x=r1 at *
   repeat' first
    |simp (config:={ maxSteps:=2000000 }) only [go_sem,seval,h5,h6]
    |refine Aa (he) ?_
    |refine Aa (h) ?_
    |refine Aa (hf) ?_
    |refine Aa (w7) ?_
    |rfl
  ·have hf:=Bf2 (x:=x) n b hf
   generalize tv t=r at *
   generalize tv x=r1 at *
   generalize tv zt=r2 at *
   repeat' first
    |simp (config:={ maxSteps:=2000000 }) only [go_sem,seval,h5,h6,h7]
    |refine Aa (he) ?_
    |refine Aa (h) ?_
    |refine Aa (hf) ?_
    |refine Aa (w7) ?_
    |rfl
theorem Bdv {t:Tm} (ht:TOk t) (b c:Nat):Con 6 [.agg true (tv t),.float .f64 b,.float .f64 c] (.bool true):=by
 obtain⟨x,n,o,he,hx,hb⟩:=A1s plib ht
 refine Al mixed Tryz.func6 tr6 ?_
 have h5:=Ag t
 have h6:=Ag x
 have h7:=Ag zt
 have hs:=Bdw x hx
 cases o with
 |false=>
  generalize tv t=r at *
  generalize tv x=r1 at *
  repeat' first
   |simp (config:={ maxSteps:=2000000 }) only [go_sem,seval,h5,h6]
   |refine Aa (he) ?_
   |rfl
 |true=>
  obtain⟨hp,hw,hz,hn⟩:=hb rfl
  have Ib:=Ayq Av2 hw hp.sf
  have q1:=Aki ht hp Ib hz hn b
  have q2:=Aki ht hp Ib hz hn c
  generalize tv t=r at *
  generalize tv x=r1 at *
  generalize tv zt=r2 at *
  cases hc:(FloatKind.f64.format.order c b==some Ordering.gt || FloatKind.f64.format.order c b==some Ordering.eq) with
  |false=>repeat' first
         |simp (config:={ maxSteps:=2000000 }) only [go_sem,seval,h5,h6,hc]
         |refine Aa (he) ?_
         |rfl
  |true=>
   rcases q1 with h|⟨h,_⟩<;>rcases q2 with k|⟨k,_⟩
   ·repeat' first
     |simp (config:={ maxSteps:=2000000 }) only [go_sem,seval,h5,h6,h7,hc]
     |refine Aa (he) ?_
     |refine Aa (h) ?_
     |refine Aa (k) ?_
     |refine Aa (hs) ?_
     |refine Aa (w7) ?_
     |rfl
   ·repeat' first
     |simp (config:={ maxSteps:=2000000 }) only [go_sem,seval,h5,h6,h7,hc]
     |refine Aa (he) ?_
     |refine Aa (h) ?_
     |refine Aa (k) ?_
     |refine Aa (hs) ?_
     |refine Aa (w7) ?_
     |rfl
   ·repeat' first
     |simp (config:={ maxSteps:=2000000 }) only [go_sem,seval,h5,h6,h7,hc]
     |refine Aa (he) ?_
     |refine Aa (h) ?_
     |refine Aa (k) ?_
     |refine Aa (hs) ?_
     |refine Aa (w7) ?_
     |rfl
   ·repeat' first
     |simp (config:={ maxSteps:=2000000 }) only [go_sem,seval,h5,h6,h7,hc]
     |refine Aa (he) ?_
     |refine Aa (h) ?_
     |refine Aa (k) ?_
     |refine Aa (hs) ?_
     |refine Aa (w7) ?_
     |rfl
open Go Go.RowKit
theorem Asg {H:Type} {enc:TypeId×Value→H} {C:Checked} {os:Os} {f:FuncId} {fn:Func} {s:ChangeSpec} {S:List TypeId} {tb:TypeId} {apart Gf handsOn:Bool} {X:World→Array Value→Prop} (hX:∀(w w':World) (args:Array Value),w.heap=w'.heap→X w args→X w' args) (own:ownKnob C.prog.godebug=none) (started:os.Started) (noInit:C.prog.inits.idxOf? f=none)
  (Jt:C.prog.funcs[f]?=some fn) (Anq:s.vars=[])
  (witness:∃(w:World) (tape:Tape) (i:Input),w.os=os∧(w.forCall tape i).Shaped C.prog∧i.vars=[]∧Input.okWide C.prog (w.forCall tape i) .any w.heap.size f i ∧
   ((s.pre enc C.prog fn [] apart (w.forCall tape i).memory i.args∧X (w.forCall tape i).memory i.args)∧sizedMet enc C.prog fn (OpenSpec.ofChange s) apart (w.forCall tape i).memory i.args)∧({}:Assume).holds C.prog (lone (Frame.enter C.prog f i.args .normal) [] (w.forCall tape i)))
  (hs:∀ds:List (DataW H),ds.length=fn.params.size→s.fn H ds={ results:=[.lit (.bool true)],args:=ds }) (Uh:fn.resultTypes=#[tb]) (htb:C.prog.underlying tb=some .bool)
  (hS:Vw C.prog S=true) (hpar:∀t∈fn.params.toList,t∈S) (hlaid:laidOutB C.prog=true) (hread:∀t∈fn.params.toList,C.prog.readableRec t=true∧t<C.prog.types.size)
  (law:∀args:List SV,Td C.prog fn.params.toList args→Contract C.prog f args (.bool true)) :
  ReturnsInHanded {} C os f .any (fun w args=>(s.pre enc C.prog fn [] apart w args∧X w args)∧sizedMet enc C.prog fn (OpenSpec.ofChange s) apart w args) (s.post enc C.prog fn apart Gf handsOn false):=by
 refine returnsInHanded_of_change_and (C:=C) (X:=X) hX own started noInit Jt witness ?_
 intro W base args ds gs before Ek hW _ Ba _ _
 have hW':=hW
 have Ab:∀x∈before,x.block<W.heap.size:=fun x hx=>hW'.lt x hx
 obtain⟨p,q,hA,hV,rfl,To,hnd⟩:=hW
 rw [Anq] at hV
 have hgs:gs=[]∧q=[]:=by
  cases gs with
  |nil=>exact⟨rfl,hV⟩
  |cons g gs=>exact hV.elim
 obtain⟨rfl,rfl⟩:=hgs
 have Jw:∀n∈DataW.weightsEach C.prog fn.params.toList ds,n≤reachBytes:=by
  intro n hn
  have:=List.all_eq_true.1 Ba n (Apz hn)
  simpa using this
 have Um:ds.length=fn.params.size:=by
  have:=(trodAll_length hA).2
  simpa using this
 obtain⟨xs,a1,a2,a3⟩:=Asw hS hpar (fun j t v ht hv=>Ek j t v (by simpa using ht) (by simpa using hv)) Jw hA
 have hc:=law xs a1 (Lt W) W args.toList ⟨fun b j v h=>h,fun b h=>h.elim⟩ a2.symm a3
 refine Calls.mono hc (fun e W' he=>?_)
 obtain⟨v,m',rfl,k1,k2,k3,k4,k5,k6,k7,k8,k9⟩:=he
 cases k1
 have hb:Below W.heap.size W W':=⟨k5,k6,k7,k8,k9⟩
 refine⟨_,rfl,ds,[],p++[],[],p,[],hW',?_,?_,?_,hb.frame _,fun h=>by cases h⟩
 ·rw [List.append_nil,hs ds Um,Uh]
  exact⟨[],[],⟨1,by simp [DataW.trod,htb,Value.cells]⟩,rfl,rfl⟩
 ·rw [List.append_nil,hs ds Um]
  exact Bay hlaid hb hread (fun x hx=>Ab x (by simpa using hx)) hA
 ·rw [List.append_nil,hs ds Um,Anq]
  rfl
end Go.Proofs.YtdpigpopcbjkmaaGreatDoor.Abs
