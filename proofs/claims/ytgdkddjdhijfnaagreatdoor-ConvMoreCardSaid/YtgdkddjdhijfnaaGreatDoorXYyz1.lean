import Derived.Test.YtgdkddjdhijfnaaGreatDoorXLl
import Derived.Test.YtgdkddjdhijfnaaGreatDoorXEv
import Derived.Test.YtgdkddjdhijfnaaGreatDoorProg
import Derived.KernelRfl
set_option linter.all false
set_option maxRecDepth 20000
set_option maxHeartbeats 4000000
namespace Go.Proofs.YtgdkddjdhijfnaaGreatDoor.Abs
open Go Go.Proofs Go.Proofs.YtgdkddjdhijfnaaGreatDoor
def af6:AF:=⟨67,[(.t 8)],(Ab [oP 4 (.box (.t 0)),oP 5 (.box (.t 1)),oP 8 (.mv (cB false))] (.seq (Ab [oP 13 (Ak 5 4),oP 14 (Ak 5 5),oP 15 (.bslice 5 [(.t 13),(.t 14)]),oP 16 (.call 8 [(.t 15)]),oP 17 (.un .not (.t 16)),Aa 18 17,oG 19 18 false 0 (mT 3),oG 20 18 false 0 (mT 2),oG 21 18 false 0 (.bin 3 .geq (.t 19) (.t 20)),oG 22 18 false 0 (.un .not (.t 21)),oP 23 (Bf 18 22)] (Ae 23 (Ab [oP 8 (.mv (cB true))] .ret) .skip)) (Ab [oP 25 (Ak 5 4),oP 26 (Ak 5 5),Aa 27 2,oP 28 (.hcall 9 [(.t 25),(.t 26),(.t 27)]),Aa 24 28,oP 29 (.ext (.t 24) 0),oP 30 (.ext (.t 24) 1),Aa 9 29,Aa 10 30] (Ab [oP 32 (Ak 5 4),oP 33 (Ak 5 5),Aa 34 3,oP 35 (.hcall 9 [(.t 32),(.t 33),(.t 34)]),Aa 31 35,oP 36 (.ext (.t 31) 0),oP 37 (.ext (.t 31) 1),Aa 11 36,Aa 12 37] (.seq (Ab [Aa 38 10,oP 39 (An .neq 38 0),Aa 40 39,oG 41 40 false 0 (mT 12),oG 42 40 false 0 (An .neq 41 0),oP 43 (Bf 40 42)] (Ae 43 (Ab [Aa 44 10,oP 45 (Aj 44 0),Aa 46 45,oG 47 46 false 0 (mT 10),oG 48 46 false 0 (Aj 47 6),oP 49 (Bf 46 48),Aa 50 49,oG 51 50 true 0 (mT 12),oG 52 50 true 0 (Aj 51 0),oG 53 50 true 0 (mT 52),oG 54 53 false 0 (mT 12),oG 55 53 false 0 (Aj 54 6),oG 56 50 true 0 (Bf 53 55),oP 57 (Az 50 56),Aa 58 57,oG 59 58 true 0 (.call 12 []),oP 60 (Az 58 59),Aa 8 60] .ret) .skip)) (Ab [Aa 61 9,Aa 62 11,oP 63 (.bin 1 .eql (.t 61) (.t 62)),Aa 64 63,oG 65 64 true 0 (.call 12 []),oP 66 (Az 64 65),Aa 8 66] .ret))))))⟩
def tr6:trF Tryz.prog Tryz.f6=some af6:=by kernel_rfl
attribute [go_sem] af6
open Go Go.RowKit Go.Proofs.YtgdkddjdhijfnaaGreatDoor
def Bdn(a b:Tm)(f g:Nat):∀x∈[SV.agg true (tv a),.agg true (tv b),.float .f64 f,.float .f64 g],NoG x:=by
 intro x hx;simp only[q_kb,q_kc,or_false] at hx;rcases hx with rfl|rfl|rfl|rfl
 ·exact Qd _ true
 ·exact Qd _ true
 ·exact .float _ _
 ·exact .float _ _
def Azb{a b:Tm}(ta:TOk a)(tb:TOk b)(f g:Nat):Con 6 [.agg true (tv a),.agg true (tv b),.float .f64 f,.float .f64 g] (.bool true):=by
 obtain⟨x,n,o,h1,hx,e1⟩:=Ph plib ta;obtain⟨y,n',o',h2,hy,e2⟩:=Ph plib tb;have Cp:=Amy h1 h2;refine Lt mixed Tryz.func6 tr6 (Bdn a b f g) (.bool _) ?_
 by_cases ho:o=true/\o'=true
 ·obtain⟨rfl,rfl⟩:=ho;have hc:=fun (f:Nat) (G:GV)=>conv19 ta tb (e1 rfl) (e2 rfl) f G
  generalize Alk x y=v at *
  simp only[go_sem,seval];refine Af Cp ?_;cases Fy:(FloatKind.f64.format.order g f==some Ordering.gt || FloatKind.f64.format.order g f==some Ordering.eq) with
  |false=>simp only[go_sem,seval,Fy]
  |true=>
   simp only[go_sem,seval,Fy];refine Ha (hc f []) trivial (fun r1 G1 k1=>?_) (fun u G1 k1=>by rcases k1 with e|⟨e,_⟩<;>cases e);rcases k1 with e|⟨e,_⟩<;>cases e<;>simp only[go_sem,seval] <;>
   refine Ha (hc g G1) trivial (fun r2 G2 k2=>?_) (fun u G2 k2=>by rcases k2 with e|⟨e,_⟩<;>cases e) <;>
   rcases k2 with e|⟨e,_⟩<;>cases e<;>simp only[go_sem,seval,beq_self_eq_true] <;>
   refine Af Ls ?_<;>simp only[go_sem,seval]
 ·have hf:(o && o')=false:=by cases o<;>cases o'<;>simp_all
  rw[hf] at Cp;simp only[go_sem,seval];refine Af Cp ?_;simp only[go_sem,seval]
end Go.Proofs.YtgdkddjdhijfnaaGreatDoor.Abs
