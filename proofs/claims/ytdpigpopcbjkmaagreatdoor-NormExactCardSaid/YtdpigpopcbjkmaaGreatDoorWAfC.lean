import Derived.Test.YtdpigpopcbjkmaaGreatDoorWEv
import Derived.Test.YtdpigpopcbjkmaaGreatDoorProg
import Derived.KernelRfl
set_option linter.unusedSimpArgs false
set_option linter.unusedVariables false
set_option maxRecDepth 20000
set_option maxHeartbeats 4000000
namespace Go.Proofs.YtdpigpopcbjkmaaGreatDoor.Abs
open Go Go.RowKit
def lqp (S:Nat→St) (n i:Nat) (p:Prop) (Q:AE→St→Prop):AE→St→Prop:=fun e s'=>match e with|.normal=>i<n∧p∧Wk s' (S (i+1))|e=>Q e s'
theorem Ak6 {S:Nat→St} {n i:Nat} {p:Prop} {Q:AE→St→Prop} {s:St}:lqp S n i p Q .normal s=(i<n∧p∧Wk s (S (i+1))):=Eq.trans rfl rfl
theorem Ai4 {S:Nat→St} {n i j:Nat} {p:Prop} {Q:AE→St→Prop} {s:St}:lqp S n i p Q (.exit j) s=Q (.exit j) s:=Eq.trans rfl rfl
theorem Ah0 {S:Nat→St} {n i:Nat} {p:Prop} {Q:AE→St→Prop} {s:St}:lqp S n i p Q .ret s=Q .ret s:=Eq.trans rfl rfl
attribute [go_sem] Ak6 Ai4 Ah0
theorem Qs {C:CT} {b:AC} {Q:AE→St→Prop} (S:Nat→St) (n:Nat) (p:Nat→Prop) (Ow:∀i,i≤n→(∀j,j<i→p j)→vc C b (lqp S n i (p i) Q) (S i)) {s:St} (h0:Wk s (S 0)):vc C (.loop b) Q s:=by
 refine Adn (fun m s=>∃i,i≤n∧m=n-i∧(∀j,j<i→p j)∧Wk s (S i)) (fun m s hI=>?_) n s ⟨0,Nat.zero_le _,rfl,fun j hj=>absurd hj (Nat.not_lt_zero _),h0⟩
 obtain⟨i,hi,rfl,hp,hw⟩:=hI
 refine⟨S i,hw,Uw (fun e s' he=>?_) (Ow i hi hp)⟩
 cases e with
 |normal=>exact⟨n-(i+1),by have:=he.1;omega,i+1,he.1,rfl,fun j hj=>(by rcases Nat.lt_succ_iff_lt_or_eq.1 hj with h|rfl;exact hp j h;exact he.2.1),he.2.2⟩
 |exit id=>exact he
 |ret=>exact he
theorem Hq {α:Type} {l:List α} {i:Nat} {d:α} (h:i<l.length):l[i]?.getD d∈l:=by
 rw [q_f h,Option.getD_some];exact List.getElem_mem h
theorem A8x {α:Type} {l:List α} {f:α→Bool} {d:α} (h:∀j,j<l.length→f (l[j]?.getD d)=true):l.all f=true:=by
 rw [List.all_eq_true]
 intro x hx
 obtain⟨i,hi,rfl⟩:=List.getElem_of_mem hx
 have:=h i hi
 rwa [q_f hi,Option.getD_some] at this
theorem Auw {α:Type} {l:List α} {f:α→Bool} {d:α} {i:Nat} (hi:i<l.length) (h:f (l[i]?.getD d)=false):l.all f=false:=by
 rw [List.all_eq_false]
 exact⟨_,Hq (d:=d) hi,by simp [h]⟩
def Gr {α:Type} (f:Nat→α→Bool):Nat→List α→Bool
 |_,[]=>true
 |i,x::l=>f i x && Gr f (i+1) l
theorem Agu {α:Type} {f:Nat→α→Bool} {d:α}:∀{l:List α} {k:Nat},(∀j,j<l.length→f (k+j) (l[j]?.getD d)=true)→Gr f k l=true:=by
 intro l
 induction l with
 |nil=>intro k _;rfl
 |cons x l ih=>
  intro k h
  simp only [Gr,Bool.and_eq_true]
  refine⟨by simpa using h 0 (by simp),ih fun j hj=>?_⟩
  have:=h (j+1) (by simp;omega)
  rw [show k+1+j=k+(j+1) by omega]
  simpa using this
theorem Afx {α:Type} {f:Nat→α→Bool} {d:α}:∀{l:List α} {k i:Nat},i<l.length→f (k+i) (l[i]?.getD d)=false→Gr f k l=false:=by
 intro l
 induction l with
 |nil=>intro k i h;simp at h
 |cons x l ih=>
  intro k i hi h
  simp only [Gr]
  cases i with
  |zero=>have h':f k x=false:=by simpa using h
         rw [h'];rfl
  |succ i=>
   rw [ih (k:=k+1) (i:=i) (by simpa using hi) (by rw [show k+1+i=k+(i+1) by omega];simpa using h),Bool.and_false]
theorem An3 {α β:Type} {f:Nat→β→Bool} {g:α→β}:∀{l:List α} {k:Nat},Gr f k (l.map g)=Gr (fun i x=>f i (g x)) k l:=by
 intro l
 induction l with
 |nil=>intro k;rfl
 |cons x l ih=>intro k;simp only [q_h,Gr,ih]
theorem Ai1 {α:Type} {f g:Nat→α→Bool}:∀{l:List α} {k:Nat},(∀i,∀x∈l,f i x=g i x)→Gr f k l=Gr g k l:=by
 intro l
 induction l with
 |nil=>intro k _;rfl
 |cons x l ih=>
  intro k h
  simp only [Gr]
  rw [h k x (by simp),ih (fun i y hy=>h i y (by simp [hy]))]
def vcI (C:CT) (b:AC) (Q:AE→St→Prop) (n:Nat) (s:St):Prop:=Nx (fun Q' s'=>vc C b Q' s') Q n s
def lqi (C:CT) (b:AC) (Q:AE→St→Prop) (n:Nat):AE→St→Prop:=fun e s'=>match e with|.normal=>vcI C b Q n s'|e=>Q e s'
section
variable {C:CT} {b:AC} {Q:AE→St→Prop} {n:Nat} {s:St}
theorem Bbu:lqi C b Q n .normal s=vcI C b Q n s:=Eq.trans rfl rfl
theorem Apf {j:Nat}:lqi C b Q n (.exit j) s=Q (.exit j) s:=Eq.trans rfl rfl
theorem Awi:lqi C b Q n .ret s=Q .ret s:=Eq.trans rfl rfl
attribute [go_sem] Bbu Apf Awi
theorem Ak (h:vc C b (lqi C b Q n) s):vcI C b Q (n+1) s:=by
 refine⟨s,.refl s,Uw (fun e s' he=>?_) h⟩
 cases e with
 |normal=>exact he
 |exit id=>exact he
 |ret=>exact he
theorem Cf (n:Nat) (h:vcI C b Q n s):vc C (.loop b) Q s:=⟨n,h⟩
end
theorem wr_0:IntKind.i64.wrap 0=0:=by decide
theorem wr_1:IntKind.i64.wrap 1=1:=by decide
theorem wr_2:IntKind.i64.wrap 2=2:=by decide
theorem wr_3:IntKind.i64.wrap 3=3:=by decide
theorem wr_4:IntKind.i64.wrap 4=4:=by decide
theorem wr_5:IntKind.i64.wrap 5=5:=by decide
theorem wr_6:IntKind.i64.wrap 6=6:=by decide
theorem A5z:IntKind.i64.wrap (-1)=-1:=by decide
attribute [go_sem] wr_0 wr_1 wr_2 wr_3 wr_4 wr_5 wr_6 A5z
open Go Go.Proofs Go.Proofs.YtdpigpopcbjkmaaGreatDoor
def af84:AF:=⟨5,[(.cell 2 true 5)],(sqF [oP 2 (.new [(iS 0),(iS 0),(iS 0),(iS 0),.nils])] (sqF [oP 3 (mT 0),oP 4 (.build [(iS 0),(iS 0),(iS 0),(iS 0),.nils] [(0,(1,(cI 2))),(1,(1,(.t 3)))]),oN (.store 5 (.t 2) (.t 4))] .ret))⟩
theorem tr84:trF Tryz.prog Tryz.f84=some af84:=by kernel_rfl
attribute [go_sem] af84
def af38:AF:=⟨39,[(.t 6)],(sqF [oP 3 (.box (.t 0)),oP 6 (.mv (cI 0))] (.seq (sqF [oP 9 (mT 2),oP 10 (.bin 0 .lss (.t 9) (cI 0))] (.cond (.t 10) (sqF [oP 11 (mT 1),oP 12 (.bin 0 .add (.t 11) (cI 1)),oP 6 (mT 12)] .ret) .skip)) (sqF [oP 7 (.mv (cI 1))] (.seq (sqF [oP 8 (.mv (cI 0))] (.blk 0 (.loop (.seq (sqF [oP 13 (mT 8),oP 14 (fdT 4 3),oP 15 (ldT 14),oP 16 (.len false (.t 15)),oP 17 (.bin 0 .lss (.t 13) (.t 16)),oP 18 (mT 17),oG 19 18 true 0 (mT 7),oG 20 18 true 0 (mT 1),oG 21 18 true 0 (.bin 0 .leq (.t 19) (.t 20)),oP 22 (.pick (.t 18) (.t 21) (cB false))] (.cond (.t 22) .skip (.exit 0))) (.seq (.blk 1 (rgF [oP 25 (mT 7),oP 26 (fdT 4 3),oP 27 (ldT 26),oP 28 (mT 8),oP 29 (.iad 5 (.t 27) (.t 28)),oP 30 (.load true 5 (.t 29)),oP 31 (mT 1),oP 32 (mT 7),oP 33 (.bin 0 .sub (.t 31) (.t 32)),oP 34 (mT 2),oP 35 (.bin 0 .sub (.t 34) (cI 1)),oP 36 (.call 38 [(.t 30),(.t 33),(.t 35)]),oP 37 (.bin 0 .add (.t 25) (.t 36)),oP 7 (mT 37)])) (rgF [oP 23 (mT 8),oP 24 (.bin 0 .add (.t 23) (cI 1)),oP 8 (mT 24)])))))) (sqF [oP 38 (mT 7),oP 6 (mT 38)] .ret)))))⟩
theorem tr38:trF Tryz.prog Tryz.f38=some af38:=by kernel_rfl
attribute [go_sem] af38
def af17:AF:=⟨10,[(.t 4)],(sqF [oP 2 (.box (.t 0)),oP 4 (.mv (cB false))] (sqF [oP 5 (.load true 5 (.t 2)),oP 6 (mT 1),oP 7 (.call 38 [(.t 5),(.t 6),(cI 200)]),oP 8 (mT 1),oP 9 (.bin 0 .gtr (.t 7) (.t 8)),oP 4 (mT 9)] .ret))⟩
theorem tr17:trF Tryz.prog Tryz.f17=some af17:=by kernel_rfl
attribute [go_sem] af17
def af30:AF:=⟨5,[(.t 2)],(sqF [oP 1 (.box (.t 0)),oP 2 (.mv (cB false))] (sqF [oP 3 (.load true 5 (.t 1)),oP 4 (.call 56 [(.t 3),(cI 2)]),oP 2 (mT 4)] .ret))⟩
theorem tr30:trF Tryz.prog Tryz.f30=some af30:=by kernel_rfl
attribute [go_sem] af30
def af56:AF:=⟨58,[(.t 4)],(sqF [oP 2 (.box (.t 0)),oP 4 (.mv (cB false))] (sqF [oP 9 (fdT 0 2),oP 10 (ldT 9),oP 11 (.call 80 [(.t 10)]),oP 5 (mT 11)] (.seq (sqF [oP 12 (mT 1),oP 13 (.bin 0 .neq (.t 12) (cI 0)),oP 14 (mT 13),oG 15 14 true 0 (mT 5),oG 16 14 true 0 (.bin 0 .neq (.t 15) (cI 0)),oP 17 (.pick (.t 14) (.t 16) (cB false)),oP 18 (mT 17),oG 19 18 true 0 (mT 5),oG 20 18 true 0 (mT 1),oG 21 18 true 0 (.bin 0 .neq (.t 19) (.t 20)),oP 22 (.pick (.t 18) (.t 21) (cB false))] (.cond (.t 22) (sqF [oP 4 (.mv (cB false))] .ret) .skip)) (.seq (sqT [oP 23 (fdT 4 2),⟨(some 24),(ldT 23),none,1,true,[]⟩,oI 25 2 (.len false (.t 24)),oI 26 3 (fdT 0 2),oI 27 4 (ldT 26),oI 28 5 (fdT 3 2),oI 29 6 (ldT 28),⟨(some 30),(.call 81 [(.t 27),(.t 29)]),none,7,false,[1]⟩,oI 31 8 (.bin 0 .neq (.t 25) (.t 30)),oI 32 9 (mT 31),oG 33 32 false 10 (.load true 5 (.t 2)),oG 34 32 false 11 (.call 82 [(.t 33)]),oG 35 32 false 12 (.un .not (.t 34)),oI 36 13 (.pick (.t 32) (cB true) (.t 35))] (.cond (.t 36) (sqF [oP 4 (.mv (cB false))] .ret) .skip)) (.seq (sqF [oP 37 (fdT 4 2),oP 38 (ldT 37),oP 39 (.len false (.t 38)),oP 40 (.mv (cI 0))] (.blk 0 (.loop (sqF [oP 41 (.bin 0 .lss (.t 40) (.t 39))] (.seq (.cond (.t 41) .skip (.exit 0)) (.seq (.blk 1 (sqF [oP 42 (mT 40),oP 43 (.iad 5 (.t 38) (.t 40)),oP 44 (.load true 5 (.t 43)),oP 7 (.new [(iS 0),(iS 0),(iS 0),(iS 0),.nils]),oP 6 (mT 42),oN (.store 5 (.t 7) (.t 44))] (sqF [oP 45 (mT 5),oP 8 (mT 45)] (.seq (sqF [oP 46 (fdT 0 2),oP 47 (ldT 46),oP 48 (.bin 0 .eql (.t 47) (cI 12)),oP 49 (mT 48),oG 50 49 true 0 (mT 6),oG 51 49 true 0 (.bin 0 .eql (.t 50) (cI 2)),oP 52 (.pick (.t 49) (.t 51) (cB false))] (.cond (.t 52) (rgF [oP 8 (.mv (cI 2))]) .skip)) (sqF [oP 53 (.load true 5 (.t 7)),oP 54 (mT 8),oP 55 (.call 56 [(.t 53),(.t 54)]),oP 56 (.un .not (.t 55))] (.cond (.t 56) (sqF [oP 4 (.mv (cB false))] .ret) .skip)))))) (rgF [oP 57 (.bin 0 .add (.t 40) (cI 1)),oP 40 (mT 57)]))))))) (sqF [oP 4 (.mv (cB true))] .ret))))))⟩
theorem tr56:trF Tryz.prog Tryz.f56=some af56:=by kernel_rfl
attribute [go_sem] af56
def af80:AF:=⟨13,[(.t 2)],(sqF [oP 2 (.mv (cI 0))] (.seq (.blk 0 (sqF [oP 4 (mT 0),oP 5 (.bin 0 .eql (.t 4) (cI 1)),oP 6 (mT 5),oG 7 6 false 0 (mT 0),oG 8 6 false 0 (.bin 0 .eql (.t 7) (cI 2)),oP 9 (.pick (.t 6) (cB true) (.t 8)),oP 3 (mT 9)] (.cond (.t 3) (sqF [oP 2 (.mv (cI 0))] .ret) (sqF [oP 11 (mT 0),oP 12 (.bin 0 .leq (.t 11) (cI 12)),oP 10 (mT 12)] (.cond (.t 10) (sqF [oP 2 (.mv (cI 1))] .ret) .skip))))) (sqF [oP 2 (.mv (cI 2))] .ret)))⟩
theorem tr80:trF Tryz.prog Tryz.f80=some af80:=by kernel_rfl
attribute [go_sem] af80
def af81:AF:=⟨38,[(.t 4)],(sqF [oP 4 (.mv (cI 0))] (.seq (sqF [oP 5 (mT 0)] (.blk 0 (.seq (sqF [oP 7 (.bin 0 .eql (.t 5) (cI 1)),oP 6 (mT 7)] (.cond (.t 6) .skip (rgF [oP 8 (.bin 0 .eql (.t 5) (cI 2)),oP 6 (mT 8)]))) (.cond (.t 6) (sqF [oP 4 (.mv (cI 0))] .ret) (.seq (sqF [oP 10 (.bin 0 .eql (.t 5) (cI 18)),oP 9 (mT 10)] (.cond (.t 9) .skip (rgF [oP 11 (.bin 0 .eql (.t 5) (cI 19)),oP 9 (mT 11)]))) (.cond (.t 9) (sqF [oP 4 (.mv (cI 1))] .ret) (.seq (sqF [oP 13 (.bin 0 .eql (.t 5) (cI 3)),oP 12 (mT 13)] (.cond (.t 12) .skip (sqF [oP 14 (.bin 0 .eql (.t 5) (cI 6)),oP 12 (mT 14)] (.cond (.t 12) .skip (sqF [oP 15 (.bin 0 .eql (.t 5) (cI 13)),oP 12 (mT 15)] (.cond (.t 12) .skip (sqF [oP 16 (.bin 0 .eql (.t 5) (cI 14)),oP 12 (mT 16)] (.cond (.t 12) .skip (sqF [oP 17 (.bin 0 .eql (.t 5) (cI 15)),oP 12 (mT 17)] (.cond (.t 12) .skip (sqF [oP 18 (.bin 0 .eql (.t 5) (cI 16)),oP 12 (mT 18)] (.cond (.t 12) .skip (sqF [oP 19 (.bin 0 .eql (.t 5) (cI 21)),oP 12 (mT 19)] (.cond (.t 12) .skip (rgF [oP 20 (.bin 0 .eql (.t 5) (cI 11)),oP 12 (mT 20)]))))))))))))))) (.cond (.t 12) (sqF [oP 4 (.mv (cI 2))] .ret) (.seq (sqF [oP 22 (.bin 0 .eql (.t 5) (cI 4)),oP 21 (mT 22)] (.cond (.t 21) .skip (sqF [oP 23 (.bin 0 .eql (.t 5) (cI 8)),oP 21 (mT 23)] (.cond (.t 21) .skip (sqF [oP 24 (.bin 0 .eql (.t 5) (cI 9)),oP 21 (mT 24)] (.cond (.t 21) .skip (sqF [oP 25 (.bin 0 .eql (.t 5) (cI 10)),oP 21 (mT 25)] (.cond (.t 21) .skip (rgF [oP 26 (.bin 0 .eql (.t 5) (cI 20)),oP 21 (mT 26)]))))))))) (.cond (.t 21) (sqF [oP 4 (.mv (cI 3))] .ret) (.seq (sqF [oP 28 (.bin 0 .eql (.t 5) (cI 5)),oP 27 (mT 28)] (.cond (.t 27) .skip (sqF [oP 29 (.bin 0 .eql (.t 5) (cI 7)),oP 27 (mT 29)] (.cond (.t 27) .skip (sqF [oP 30 (.bin 0 .eql (.t 5) (cI 12)),oP 27 (mT 30)] (.cond (.t 27) .skip (rgF [oP 31 (.bin 0 .eql (.t 5) (cI 17)),oP 27 (mT 31)]))))))) (.cond (.t 27) (sqF [oP 4 (.mv (cI 4))] .ret) (sqF [oP 33 (.bin 0 .eql (.t 5) (cI 22)),oP 32 (mT 33)] (.cond (.t 32) (sqF [oP 4 (.mv (cI 6))] .ret) (sqF [oP 35 (.bin 0 .eql (.t 5) (cI 23)),oP 34 (mT 35)] (.cond (.t 34) (sqF [oP 36 (mT 1),oP 37 (.call 108 [(.t 36)]),oP 4 (mT 37)] .ret) .skip)))))))))))))))) (sqF [oP 4 (.mv (cI (-1)))] .ret)))⟩
theorem tr81:trF Tryz.prog Tryz.f81=some af81:=by kernel_rfl
attribute [go_sem] af81
def af82:AF:=⟨87,[(.t 2)],(sqF [oP 1 (.box (.t 0)),oP 2 (.mv (cB false))] (.seq (sqF [oP 3 (fdT 0 1),oP 4 (ldT 3)] (.blk 0 (.seq (sqF [oP 6 (.bin 0 .eql (.t 4) (cI 1)),oP 5 (mT 6)] (.cond (.t 5) .skip (sqF [oP 7 (.bin 0 .eql (.t 4) (cI 10)),oP 5 (mT 7)] (.cond (.t 5) .skip (sqF [oP 8 (.bin 0 .eql (.t 4) (cI 11)),oP 5 (mT 8)] (.cond (.t 5) .skip (rgF [oP 9 (.bin 0 .eql (.t 4) (cI 12)),oP 5 (mT 9)]))))))) (.cond (.t 5) (sqF [oP 10 (fdT 1 1),oP 11 (ldT 10),oP 12 (.call 109 [(.t 11)]),oP 13 (mT 12),oG 14 13 true 0 (fdT 2 1),oG 15 13 true 0 (ldT 14),oG 16 13 true 0 (.bin 0 .eql (.t 15) (cI 0)),oP 17 (.pick (.t 13) (.t 16) (cB false)),oP 18 (mT 17),oG 19 18 true 0 (fdT 3 1),oG 20 18 true 0 (ldT 19),oG 21 18 true 0 (.bin 0 .eql (.t 20) (cI 0)),oP 22 (.pick (.t 18) (.t 21) (cB false)),oP 2 (mT 22)] .ret) (sqF [oP 24 (.bin 0 .eql (.t 4) (cI 2)),oP 23 (mT 24)] (.cond (.t 23) (sqF [oP 25 (fdT 1 1),oP 26 (ldT 25),oP 27 (.bin 0 .geq (.t 26) (cI 0)),oP 28 (mT 27),oG 29 28 true 0 (fdT 1 1),oG 30 28 true 0 (ldT 29),oG 31 28 true 0 (.bin 0 .leq (.t 30) (cI 2147483647)),oP 32 (.pick (.t 28) (.t 31) (cB false)),oP 33 (mT 32),oG 34 33 true 0 (fdT 2 1),oG 35 33 true 0 (ldT 34),oG 36 33 true 0 (.bin 0 .eql (.t 35) (cI 0)),oP 37 (.pick (.t 33) (.t 36) (cB false)),oP 38 (mT 37),oG 39 38 true 0 (fdT 3 1),oG 40 38 true 0 (ldT 39),oG 41 38 true 0 (.bin 0 .eql (.t 40) (cI 0)),oP 42 (.pick (.t 38) (.t 41) (cB false)),oP 2 (mT 42)] .ret) (.seq (sqF [oP 44 (.bin 0 .eql (.t 4) (cI 3)),oP 43 (mT 44)] (.cond (.t 43) .skip (sqF [oP 45 (.bin 0 .eql (.t 4) (cI 4)),oP 43 (mT 45)] (.cond (.t 43) .skip (sqF [oP 46 (.bin 0 .eql (.t 4) (cI 5)),oP 43 (mT 46)] (.cond (.t 43) .skip (sqF [oP 47 (.bin 0 .eql (.t 4) (cI 6)),oP 43 (mT 47)] (.cond (.t 43) .skip (sqF [oP 48 (.bin 0 .eql (.t 4) (cI 7)),oP 43 (mT 48)] (.cond (.t 43) .skip (sqF [oP 49 (.bin 0 .eql (.t 4) (cI 8)),oP 43 (mT 49)] (.cond (.t 43) .skip (rgF [oP 50 (.bin 0 .eql (.t 4) (cI 9)),oP 43 (mT 50)]))))))))))))) (.cond (.t 43) (sqF [oP 51 (fdT 1 1),oP 52 (ldT 51),oP 53 (.call 109 [(.t 52)]),oP 54 (mT 53),oG 55 54 true 0 (fdT 2 1),oG 56 54 true 0 (ldT 55),oG 57 54 true 0 (.call 109 [(.t 56)]),oP 58 (.pick (.t 54) (.t 57) (cB false)),oP 59 (mT 58),oG 60 59 true 0 (fdT 3 1),oG 61 59 true 0 (ldT 60),oG 62 59 true 0 (.bin 0 .eql (.t 61) (cI 0)),oP 63 (.pick (.t 59) (.t 62) (cB false)),oP 2 (mT 63)] .ret) (sqF [oP 65 (.bin 0 .eql (.t 4) (cI 23)),oP 64 (mT 65)] (.cond (.t 64) (sqF [oP 66 (fdT 1 1),oP 67 (ldT 66),oP 68 (.call 109 [(.t 67)]),oP 69 (mT 68),oG 70 69 true 0 (fdT 2 1),oG 71 69 true 0 (ldT 70),oG 72 69 true 0 (.call 109 [(.t 71)]),oP 73 (.pick (.t 69) (.t 72) (cB false)),oP 2 (mT 73)] .ret) .skip)))))))))) (sqF [oP 74 (fdT 1 1),oP 75 (ldT 74),oP 76 (.bin 0 .eql (.t 75) (cI 0)),oP 77 (mT 76),oG 78 77 true 0 (fdT 2 1),oG 79 77 true 0 (ldT 78),oG 80 77 true 0 (.bin 0 .eql (.t 79) (cI 0)),oP 81 (.pick (.t 77) (.t 80) (cB false)),oP 82 (mT 81),oG 83 82 true 0 (fdT 3 1),oG 84 82 true 0 (ldT 83),oG 85 82 true 0 (.bin 0 .eql (.t 84) (cI 0)),oP 86 (.pick (.t 82) (.t 85) (cB false)),oP 2 (mT 86)] .ret)))⟩
theorem tr82:trF Tryz.prog Tryz.f82=some af82:=by kernel_rfl
attribute [go_sem] af82
def af108:AF:=⟨30,[(.t 2)],(sqF [oP 2 (.mv (cI 0))] (.seq (sqF [oP 3 (mT 0)] (.blk 0 (.seq (sqF [oP 5 (.bin 0 .eql (.t 3) (cI 3)),oP 4 (mT 5)] (.cond (.t 4) .skip (sqF [oP 6 (.bin 0 .eql (.t 3) (cI 5)),oP 4 (mT 6)] (.cond (.t 4) .skip (sqF [oP 7 (.bin 0 .eql (.t 3) (cI 6)),oP 4 (mT 7)] (.cond (.t 4) .skip (sqF [oP 8 (.bin 0 .eql (.t 3) (cI 8)),oP 4 (mT 8)] (.cond (.t 4) .skip (sqF [oP 9 (.bin 0 .eql (.t 3) (cI 10)),oP 4 (mT 9)] (.cond (.t 4) .skip (rgF [oP 10 (.bin 0 .eql (.t 3) (cI 11)),oP 4 (mT 10)]))))))))))) (.cond (.t 4) (sqF [oP 2 (.mv (cI 4))] .ret) (.seq (sqF [oP 12 (.bin 0 .eql (.t 3) (cI 1)),oP 11 (mT 12)] (.cond (.t 11) .skip (sqF [oP 13 (.bin 0 .eql (.t 3) (cI 2)),oP 11 (mT 13)] (.cond (.t 11) .skip (sqF [oP 14 (.bin 0 .eql (.t 3) (cI 7)),oP 11 (mT 14)] (.cond (.t 11) .skip (rgF [oP 15 (.bin 0 .eql (.t 3) (cI 9)),oP 11 (mT 15)]))))))) (.cond (.t 11) (sqF [oP 2 (.mv (cI 5))] .ret) (.seq (sqF [oP 17 (.bin 0 .eql (.t 3) (cI 4)),oP 16 (mT 17)] (.cond (.t 16) .skip (sqF [oP 18 (.bin 0 .eql (.t 3) (cI 12)),oP 16 (mT 18)] (.cond (.t 16) .skip (sqF [oP 19 (.bin 0 .eql (.t 3) (cI 13)),oP 16 (mT 19)] (.cond (.t 16) .skip (sqF [oP 20 (.bin 0 .eql (.t 3) (cI 14)),oP 16 (mT 20)] (.cond (.t 16) .skip (rgF [oP 21 (.bin 0 .eql (.t 3) (cI 21)),oP 16 (mT 21)]))))))))) (.cond (.t 16) (sqF [oP 2 (.mv (cI 6))] .ret) (.seq (sqF [oP 23 (.bin 0 .eql (.t 3) (cI 15)),oP 22 (mT 23)] (.cond (.t 22) .skip (sqF [oP 24 (.bin 0 .eql (.t 3) (cI 18)),oP 22 (mT 24)] (.cond (.t 22) .skip (sqF [oP 25 (.bin 0 .eql (.t 3) (cI 19)),oP 22 (mT 25)] (.cond (.t 22) .skip (rgF [oP 26 (.bin 0 .eql (.t 3) (cI 20)),oP 22 (mT 26)]))))))) (.cond (.t 22) (sqF [oP 2 (.mv (cI 9))] .ret) (.seq (sqF [oP 28 (.bin 0 .eql (.t 3) (cI 16)),oP 27 (mT 28)] (.cond (.t 27) .skip (rgF [oP 29 (.bin 0 .eql (.t 3) (cI 17)),oP 27 (mT 29)]))) (.cond (.t 27) (sqF [oP 2 (.mv (cI 12))] .ret) .skip)))))))))))) (sqF [oP 2 (.mv (cI (-1)))] .ret)))⟩
theorem tr108:trF Tryz.prog Tryz.f108=some af108:=by kernel_rfl
attribute [go_sem] af108
def af109:AF:=⟨9,[(.t 2)],(sqF [oP 2 (.mv (cB false))] (sqF [oP 3 (mT 0),oP 4 (.bin 0 .geq (.t 3) (cI 0)),oP 5 (mT 4),oG 6 5 true 0 (mT 0),oG 7 5 true 0 (.bin 0 .leq (.t 6) (cI 1000)),oP 8 (.pick (.t 5) (.t 7) (cB false)),oP 2 (mT 8)] .ret))⟩
theorem tr109:trF Tryz.prog Tryz.f109=some af109:=by kernel_rfl
attribute [go_sem] af109
def af18:AF:=⟨41,[(.t 2)],(sqF [oP 1 (.box (.t 0)),oP 2 (.mv (cB false))] (.seq (sqF [oP 4 (fdT 0 1),oP 5 (ldT 4),oP 6 (.bin 0 .neq (.t 5) (cI 1)),oP 7 (mT 6),oG 8 7 true 0 (fdT 0 1),oG 9 7 true 0 (ldT 8),oG 10 7 true 0 (.bin 0 .neq (.t 9) (cI 2)),oP 11 (.pick (.t 7) (.t 10) (cB false)),oP 12 (mT 11),oG 13 12 true 0 (fdT 0 1),oG 14 12 true 0 (ldT 13),oG 15 12 true 0 (.bin 0 .lss (.t 14) (cI 13)),oG 16 12 true 0 (mT 15),oG 17 16 false 0 (fdT 0 1),oG 18 16 false 0 (ldT 17),oG 19 16 false 0 (.bin 0 .gtr (.t 18) (cI 23)),oG 20 12 true 0 (.pick (.t 16) (cB true) (.t 19)),oP 21 (.pick (.t 12) (.t 20) (cB false)),oP 22 (mT 21),oG 23 22 false 0 (.load true 5 (.t 1)),oG 24 22 false 0 (.call 39 [(.t 23)]),oG 25 22 false 0 (.un .not (.t 24)),oP 26 (.pick (.t 22) (cB true) (.t 25))] (.cond (.t 26) (sqF [oP 2 (.mv (cB false))] .ret) .skip)) (.seq (sqF [oP 3 (.mv (cI 0))] (.blk 0 (.loop (.seq (sqF [oP 27 (mT 3),oP 28 (fdT 4 1),oP 29 (ldT 28),oP 30 (.len false (.t 29)),oP 31 (.bin 0 .lss (.t 27) (.t 30))] (.cond (.t 31) .skip (.exit 0))) (.seq (.blk 1 (sqF [oP 34 (fdT 4 1),oP 35 (ldT 34),oP 36 (mT 3),oP 37 (.iad 5 (.t 35) (.t 36)),oP 38 (.load true 5 (.t 37)),oP 39 (.call 18 [(.t 38)]),oP 40 (.un .not (.t 39))] (.cond (.t 40) (sqF [oP 2 (.mv (cB false))] .ret) .skip))) (rgF [oP 32 (mT 3),oP 33 (.bin 0 .add (.t 32) (cI 1)),oP 3 (mT 33)])))))) (sqF [oP 2 (.mv (cB true))] .ret))))⟩
theorem tr18:trF Tryz.prog Tryz.f18=some af18:=by kernel_rfl
attribute [go_sem] af18
def af39:AF:=⟨16,[(.t 2)],(sqF [oP 1 (.box (.t 0)),oP 2 (.mv (cB false))] (sqT [oP 3 (fdT 4 1),⟨(some 4),(ldT 3),none,1,true,[]⟩,oI 5 2 (.len false (.t 4)),oI 6 3 (fdT 0 1),oI 7 4 (ldT 6),oI 8 5 (fdT 3 1),oI 9 6 (ldT 8),⟨(some 10),(.call 62 [(.t 7),(.t 9)]),none,7,false,[1]⟩,oI 11 8 (.bin 0 .eql (.t 5) (.t 10)),oI 12 9 (mT 11),oG 13 12 true 10 (.load true 5 (.t 1)),oG 14 12 true 11 (.call 63 [(.t 13)]),oI 15 12 (.pick (.t 12) (.t 14) (cB false)),oI 2 13 (mT 15)] .ret))⟩
theorem tr39:trF Tryz.prog Tryz.f39=some af39:=by kernel_rfl
attribute [go_sem] af39
def af62:AF:=⟨51,[(.t 4)],(sqF [oP 4 (.mv (cI 0))] (.seq (sqF [oP 6 (mT 0)] (.blk 0 (.seq (sqF [oP 8 (.bin 0 .eql (.t 6) (cI 1)),oP 7 (mT 8)] (.cond (.t 7) .skip (rgF [oP 9 (.bin 0 .eql (.t 6) (cI 2)),oP 7 (mT 9)]))) (.cond (.t 7) (sqF [oP 4 (.mv (cI 0))] .ret) (.seq (sqF [oP 11 (.bin 0 .eql (.t 6) (cI 18)),oP 10 (mT 11)] (.cond (.t 10) .skip (rgF [oP 12 (.bin 0 .eql (.t 6) (cI 19)),oP 10 (mT 12)]))) (.cond (.t 10) (sqF [oP 4 (.mv (cI 1))] .ret) (.seq (sqF [oP 14 (.bin 0 .eql (.t 6) (cI 3)),oP 13 (mT 14)] (.cond (.t 13) .skip (sqF [oP 15 (.bin 0 .eql (.t 6) (cI 6)),oP 13 (mT 15)] (.cond (.t 13) .skip (sqF [oP 16 (.bin 0 .eql (.t 6) (cI 13)),oP 13 (mT 16)] (.cond (.t 13) .skip (sqF [oP 17 (.bin 0 .eql (.t 6) (cI 14)),oP 13 (mT 17)] (.cond (.t 13) .skip (sqF [oP 18 (.bin 0 .eql (.t 6) (cI 15)),oP 13 (mT 18)] (.cond (.t 13) .skip (sqF [oP 19 (.bin 0 .eql (.t 6) (cI 16)),oP 13 (mT 19)] (.cond (.t 13) .skip (sqF [oP 20 (.bin 0 .eql (.t 6) (cI 21)),oP 13 (mT 20)] (.cond (.t 13) .skip (rgF [oP 21 (.bin 0 .eql (.t 6) (cI 11)),oP 13 (mT 21)]))))))))))))))) (.cond (.t 13) (sqF [oP 4 (.mv (cI 2))] .ret) (.seq (sqF [oP 23 (.bin 0 .eql (.t 6) (cI 4)),oP 22 (mT 23)] (.cond (.t 22) .skip (sqF [oP 24 (.bin 0 .eql (.t 6) (cI 8)),oP 22 (mT 24)] (.cond (.t 22) .skip (sqF [oP 25 (.bin 0 .eql (.t 6) (cI 9)),oP 22 (mT 25)] (.cond (.t 22) .skip (sqF [oP 26 (.bin 0 .eql (.t 6) (cI 10)),oP 22 (mT 26)] (.cond (.t 22) .skip (rgF [oP 27 (.bin 0 .eql (.t 6) (cI 20)),oP 22 (mT 27)]))))))))) (.cond (.t 22) (sqF [oP 4 (.mv (cI 3))] .ret) (.seq (sqF [oP 29 (.bin 0 .eql (.t 6) (cI 5)),oP 28 (mT 29)] (.cond (.t 28) .skip (sqF [oP 30 (.bin 0 .eql (.t 6) (cI 7)),oP 28 (mT 30)] (.cond (.t 28) .skip (sqF [oP 31 (.bin 0 .eql (.t 6) (cI 12)),oP 28 (mT 31)] (.cond (.t 28) .skip (rgF [oP 32 (.bin 0 .eql (.t 6) (cI 17)),oP 28 (mT 32)]))))))) (.cond (.t 28) (sqF [oP 4 (.mv (cI 4))] .ret) (sqF [oP 34 (.bin 0 .eql (.t 6) (cI 22)),oP 33 (mT 34)] (.cond (.t 33) (sqF [oP 4 (.mv (cI 6))] .ret) (sqF [oP 36 (.bin 0 .eql (.t 6) (cI 23)),oP 35 (mT 36)] (.cond (.t 35) (sqF [oP 37 (.bslice 1 [(cI 5),(cI 5),(cI 4),(cI 6),(cI 4),(cI 4),(cI 5),(cI 4),(cI 5),(cI 4),(cI 4),(cI 6),(cI 6),(cI 6),(cI 9),(cI 12),(cI 12),(cI 9),(cI 9),(cI 9),(cI 6)]),oP 5 (mT 37)] (sqF [oP 38 (mT 1),oP 39 (.bin 0 .geq (.t 38) (cI 1)),oP 40 (mT 39),oG 41 40 true 0 (mT 1),oG 42 40 true 0 (mT 5),oG 43 40 true 0 (.len false (.t 42)),oG 44 40 true 0 (.bin 0 .leq (.t 41) (.t 43)),oP 45 (.pick (.t 40) (.t 44) (cB false))] (.cond (.t 45) (sqF [oP 46 (mT 5),oP 47 (mT 1),oP 48 (.bin 0 .sub (.t 47) (cI 1)),oP 49 (.iad 1 (.t 46) (.t 48)),oP 50 (ldT 49),oP 4 (mT 50)] .ret) .skip))) .skip)))))))))))))))) (sqF [oP 4 (.mv (cI (-1)))] .ret)))⟩
theorem tr62:trF Tryz.prog Tryz.f62=some af62:=by kernel_rfl
attribute [go_sem] af62
def af63:AF:=⟨87,[(.t 2)],(sqF [oP 1 (.box (.t 0)),oP 2 (.mv (cB false))] (.seq (sqF [oP 3 (fdT 0 1),oP 4 (ldT 3)] (.blk 0 (sqF [oP 6 (.bin 0 .eql (.t 4) (cI 2)),oP 5 (mT 6)] (.cond (.t 5) (sqF [oP 7 (fdT 1 1),oP 8 (ldT 7),oP 9 (.bin 0 .geq (.t 8) (cI 0)),oP 10 (mT 9),oG 11 10 true 0 (fdT 1 1),oG 12 10 true 0 (ldT 11),oG 13 10 true 0 (.bin 0 .leq (.t 12) (cI 2147483647)),oP 14 (.pick (.t 10) (.t 13) (cB false)),oP 15 (mT 14),oG 16 15 true 0 (fdT 2 1),oG 17 15 true 0 (ldT 16),oG 18 15 true 0 (.bin 0 .eql (.t 17) (cI 0)),oP 19 (.pick (.t 15) (.t 18) (cB false)),oP 20 (mT 19),oG 21 20 true 0 (fdT 3 1),oG 22 20 true 0 (ldT 21),oG 23 20 true 0 (.bin 0 .eql (.t 22) (cI 0)),oP 24 (.pick (.t 20) (.t 23) (cB false)),oP 2 (mT 24)] .ret) (.seq (sqF [oP 26 (.bin 0 .eql (.t 4) (cI 3)),oP 25 (mT 26)] (.cond (.t 25) .skip (sqF [oP 27 (.bin 0 .eql (.t 4) (cI 4)),oP 25 (mT 27)] (.cond (.t 25) .skip (sqF [oP 28 (.bin 0 .eql (.t 4) (cI 5)),oP 25 (mT 28)] (.cond (.t 25) .skip (sqF [oP 29 (.bin 0 .eql (.t 4) (cI 6)),oP 25 (mT 29)] (.cond (.t 25) .skip (sqF [oP 30 (.bin 0 .eql (.t 4) (cI 7)),oP 25 (mT 30)] (.cond (.t 25) .skip (sqF [oP 31 (.bin 0 .eql (.t 4) (cI 8)),oP 25 (mT 31)] (.cond (.t 25) .skip (rgF [oP 32 (.bin 0 .eql (.t 4) (cI 9)),oP 25 (mT 32)]))))))))))))) (.cond (.t 25) (sqF [oP 33 (fdT 1 1),oP 34 (ldT 33),oP 35 (.call 87 [(.t 34)]),oP 36 (mT 35),oG 37 36 true 0 (fdT 2 1),oG 38 36 true 0 (ldT 37),oG 39 36 true 0 (.call 87 [(.t 38)]),oP 40 (.pick (.t 36) (.t 39) (cB false)),oP 41 (mT 40),oG 42 41 true 0 (fdT 3 1),oG 43 41 true 0 (ldT 42),oG 44 41 true 0 (.bin 0 .eql (.t 43) (cI 0)),oP 45 (.pick (.t 41) (.t 44) (cB false)),oP 2 (mT 45)] .ret) (.seq (sqF [oP 47 (.bin 0 .eql (.t 4) (cI 1)),oP 46 (mT 47)] (.cond (.t 46) .skip (sqF [oP 48 (.bin 0 .eql (.t 4) (cI 10)),oP 46 (mT 48)] (.cond (.t 46) .skip (sqF [oP 49 (.bin 0 .eql (.t 4) (cI 11)),oP 46 (mT 49)] (.cond (.t 46) .skip (rgF [oP 50 (.bin 0 .eql (.t 4) (cI 12)),oP 46 (mT 50)]))))))) (.cond (.t 46) (sqF [oP 51 (fdT 1 1),oP 52 (ldT 51),oP 53 (.call 87 [(.t 52)]),oP 54 (mT 53),oG 55 54 true 0 (fdT 2 1),oG 56 54 true 0 (ldT 55),oG 57 54 true 0 (.bin 0 .eql (.t 56) (cI 0)),oP 58 (.pick (.t 54) (.t 57) (cB false)),oP 59 (mT 58),oG 60 59 true 0 (fdT 3 1),oG 61 59 true 0 (ldT 60),oG 62 59 true 0 (.bin 0 .eql (.t 61) (cI 0)),oP 63 (.pick (.t 59) (.t 62) (cB false)),oP 2 (mT 63)] .ret) (sqF [oP 65 (.bin 0 .eql (.t 4) (cI 23)),oP 64 (mT 65)] (.cond (.t 64) (sqF [oP 66 (fdT 1 1),oP 67 (ldT 66),oP 68 (.call 87 [(.t 67)]),oP 69 (mT 68),oG 70 69 true 0 (fdT 2 1),oG 71 69 true 0 (ldT 70),oG 72 69 true 0 (.call 87 [(.t 71)]),oP 73 (.pick (.t 69) (.t 72) (cB false)),oP 2 (mT 73)] .ret) .skip)))))))))) (sqF [oP 74 (fdT 1 1),oP 75 (ldT 74),oP 76 (.bin 0 .eql (.t 75) (cI 0)),oP 77 (mT 76),oG 78 77 true 0 (fdT 2 1),oG 79 77 true 0 (ldT 78),oG 80 77 true 0 (.bin 0 .eql (.t 79) (cI 0)),oP 81 (.pick (.t 77) (.t 80) (cB false)),oP 82 (mT 81),oG 83 82 true 0 (fdT 3 1),oG 84 82 true 0 (ldT 83),oG 85 82 true 0 (.bin 0 .eql (.t 84) (cI 0)),oP 86 (.pick (.t 82) (.t 85) (cB false)),oP 2 (mT 86)] .ret)))⟩
theorem tr63:trF Tryz.prog Tryz.f63=some af63:=by kernel_rfl
attribute [go_sem] af63
def af87:AF:=⟨9,[(.t 2)],(sqF [oP 2 (.mv (cB false))] (sqF [oP 3 (mT 0),oP 4 (.bin 0 .geq (.t 3) (cI 0)),oP 5 (mT 4),oG 6 5 true 0 (mT 0),oG 7 5 true 0 (.bin 0 .leq (.t 6) (cI 1000)),oP 8 (.pick (.t 5) (.t 7) (cB false)),oP 2 (mT 8)] .ret))⟩
theorem tr87:trF Tryz.prog Tryz.f87=some af87:=by kernel_rfl
attribute [go_sem] af87
def af60:AF:=⟨31,[(.t 4)],(sqF [oP 4 (.mv (cI 0))] (.seq (sqF [oP 5 (mT 0)] (.blk 0 (.seq (sqF [oP 7 (.bin 0 .eql (.t 5) (cI 3)),oP 6 (mT 7)] (.cond (.t 6) .skip (sqF [oP 8 (.bin 0 .eql (.t 5) (cI 5)),oP 6 (mT 8)] (.cond (.t 6) .skip (sqF [oP 9 (.bin 0 .eql (.t 5) (cI 6)),oP 6 (mT 9)] (.cond (.t 6) .skip (sqF [oP 10 (.bin 0 .eql (.t 5) (cI 7)),oP 6 (mT 10)] (.cond (.t 6) .skip (sqF [oP 11 (.bin 0 .eql (.t 5) (cI 8)),oP 6 (mT 11)] (.cond (.t 6) .skip (sqF [oP 12 (.bin 0 .eql (.t 5) (cI 9)),oP 6 (mT 12)] (.cond (.t 6) .skip (sqF [oP 13 (.bin 0 .eql (.t 5) (cI 13)),oP 6 (mT 13)] (.cond (.t 6) .skip (sqF [oP 14 (.bin 0 .eql (.t 5) (cI 14)),oP 6 (mT 14)] (.cond (.t 6) .skip (sqF [oP 15 (.bin 0 .eql (.t 5) (cI 16)),oP 6 (mT 15)] (.cond (.t 6) .skip (rgF [oP 16 (.bin 0 .eql (.t 5) (cI 17)),oP 6 (mT 16)]))))))))))))))))))) (.cond (.t 6) (sqF [oP 17 (mT 1),oP 18 (.bin 0 .eql (.t 17) (cI 1))] (.cond (.t 18) (sqF [oP 4 (.mv (cI 1))] .ret) .skip)) (sqF [oP 20 (.bin 0 .eql (.t 5) (cI 4)),oP 19 (mT 20)] (.cond (.t 19) (sqF [oP 21 (mT 1),oP 22 (.bin 0 .eql (.t 21) (cI 1)),oP 23 (mT 22),oG 24 23 false 0 (mT 1),oG 25 23 false 0 (.bin 0 .eql (.t 24) (cI 2)),oP 26 (.pick (.t 23) (cB true) (.t 25))] (.cond (.t 26) (sqF [oP 4 (.mv (cI 1))] .ret) .skip)) (sqF [oP 28 (.bin 0 .eql (.t 5) (cI 22)),oP 27 (mT 28)] (.cond (.t 27) (sqF [oP 29 (mT 1),oP 30 (.bin 0 .eql (.t 29) (cI 2))] (.cond (.t 30) (sqF [oP 4 (.mv (cI 2))] .ret) .skip)) .skip)))))))) (sqF [oP 4 (.mv (cI 0))] .ret)))⟩
theorem tr60:trF Tryz.prog Tryz.f60=some af60:=by kernel_rfl
attribute [go_sem] af60
end Go.Proofs.YtdpigpopcbjkmaaGreatDoor.Abs
