/- What rel's parts come to: sound, the sides not too high. Plain Lean. -/
import Derived.Test.YtkldipbhenabfaaGreatRLa
import Derived.Test.YtkldipbhenabfaaGreatRKg
import Derived.Test.YtkldipbhenabfaaGreatRIf
set_option linter.unusedSimpArgs false
set_option linter.unusedVariables false
namespace Go.Proofs.YtkldipbhenabfaaGreat.Abs
open Go Go.RowKit Go.Proofs.YtkldipbhenabfaaGreat

structure HOk (N : Nat) (g : HT) : Prop where
  ok : g.ok
  i : 0 ≤ g.i ∧ g.i ≤ 1000
  x : hgtT g.x ≤ N
  y : hgtT g.y ≤ N
theorem hgt_zT : hgtT zT = 1 := by unfold zT; rw [hgtT_mk, hgtL]
theorem hgt_so (i : Int) : hgtT (so i) = 1 := by unfold so; rw [hgtT_mk, hgtL]
theorem hok_zH {N : Nat} (h : 1 ≤ N) : HOk N zH := ⟨ok_zH, by show (0 : Int) ≤ 0 ∧ (0 : Int) ≤ 1000; omega, by show hgtT zT ≤ N; rw [hgt_zT]; exact h, by show hgtT zT ≤ N; rw [hgt_zT]; exact h⟩
theorem HOk.mono {M N : Nat} {g : HT} (h : HOk M g) (hMN : M ≤ N) : HOk N g := ⟨h.ok, h.i, Nat.le_trans h.x hMN, Nat.le_trans h.y hMN⟩
theorem lev2_le' {i : Int} (h : lev2 i = true) : 0 ≤ i ∧ i ≤ 998 := by
  unfold lev2 at h
  simpa using h
theorem hok_turn {N : Nat} (hN : 1 ≤ N) {g : HT} (h : HOk N g) : HOk N (turnF g) := by
  refine ⟨ok_turnF h.ok, ?_, ?_, ?_⟩ <;> unfold turnF <;> split
  · exact h.i
  · exact (hok_zH hN).i
  · exact h.y
  · exact (hok_zH hN).x
  · exact h.x
  · exact (hok_zH hN).y
theorem hgt4 (k i j n : Int) (a b p x : Tm) (M : Nat) (h1 : hgtT a ≤ M) (h2 : hgtT b ≤ M) (h3 : hgtT p ≤ M) (h4 : hgtT x ≤ M) : hgtT (.mk k i j n [a, b, p, x]) ≤ M + 1 := by
  rw [hgtT_mk]; simp only [hgtL]; omega
theorem hgt2 (k i j n : Int) (a b : Tm) (M : Nat) (h1 : hgtT a ≤ M) (h2 : hgtT b ≤ M) : hgtT (.mk k i j n [a, b]) ≤ M + 1 := by
  rw [hgtT_mk]; simp only [hgtL]; omega
theorem hok_moved {M : Nat} {i : Int} {a b p x : Tm} (ha : TOk a) (hb : TOk b) (hp : TOk p) (hx : TOk x) (h1 : hgtT a ≤ M) (h2 : hgtT b ≤ M) (h3 : hgtT p ≤ M) (h4 : hgtT x ≤ M) : HOk (M + 1) (movedF i a b p x) := by
  refine ⟨ok_movedF ha hb hp hx, ?_, ?_, ?_⟩ <;> unfold movedF <;> split
  · rename_i h
    rw [Bool.and_eq_true] at h
    have := lev2_le' h.1
    exact ⟨this.1, by show i ≤ 1000; omega⟩
  · exact (hok_zH (by omega : 1 ≤ M + 1)).i
  · exact Nat.le_succ_of_le h4
  · exact (hok_zH (by omega : 1 ≤ M + 1)).x
  · exact hgt4 _ _ _ _ _ _ _ _ M h1 h2 h3 h4
  · exact (hok_zH (by omega : 1 ≤ M + 1)).y
theorem hok_then {N : Nat} {g h : HT} (hg : HOk N g) (hh : HOk N h) : HOk N (tieThen g h) := by
  have fi : fit g.i := by have := hg.i; unfold fit; omega
  refine ⟨⟨fi, hg.ok.a, hh.ok.b, hg.ok.x, hh.ok.y, tok_us (by unfold fit; omega) (by have := hg.i; unfold fit; omega) (by unfold fit; omega) (by simp) ?_⟩, hg.i, hg.x, hh.y⟩
  simp [tok_pointsF, tok_pointF hg.ok.a hg.ok.x, tok_pointF hg.ok.b hg.ok.y, tok_pointF hh.ok.b hh.ok.y, hg.ok.h, hh.ok.h]
theorem hok_of {M : Nat} (hM : 1 ≤ M) {i : Int} {a x y e : Tm} (ha : TOk a) (hx : TOk x) (hy : TOk y) (he : TOk e) (h1 : hgtT x ≤ M) (h2 : hgtT y ≤ M) : HOk M (ofF i a x y e) := by
  refine ⟨ok_ofF ha hx hy he, ?_, ?_, ?_⟩ <;> unfold ofF <;> split
  · rename_i h
    rw [Bool.and_eq_true] at h
    have := lev2_le' h.1
    exact ⟨this.1, by show i ≤ 1000; omega⟩
  · exact (hok_zH hM).i
  · exact h1
  · exact (hok_zH hM).x
  · exact h2
  · exact (hok_zH hM).y
theorem hok_self {M : Nat} (hM : 1 ≤ M) {i : Int} {a x : Tm} (ha : TOk a) (hx : TOk x) (h1 : hgtT x ≤ M) : HOk M (selfF i a x) := by
  refine ⟨ok_selfF ha hx, ?_, ?_, ?_⟩ <;> unfold selfF <;> split
  · rename_i h
    rw [Bool.and_eq_true] at h
    have := lev2_le' h.1
    exact ⟨this.1, by show i ≤ 1000; omega⟩
  · exact (hok_zH hM).i
  · exact h1
  · exact (hok_zH hM).x
  · exact h1
  · exact (hok_zH hM).y
theorem mx_le {i j : Int} (hi : 0 ≤ i ∧ i ≤ 1000) (hj : 0 ≤ j ∧ j ≤ 1000) : 0 ≤ mxI i j ∧ mxI i j ≤ 1000 := by unfold mxI; split <;> assumption
theorem hok_lam {M : Nat} {f : FT} {t s k : Tm} (hf : f.ok) (hi : 0 ≤ f.i ∧ f.i ≤ 1000) (hj : 0 ≤ f.j ∧ f.j ≤ 1000) (ht : TOk t) (hs : TOk s) (hk : TOk k) (h1 : hgtT f.a ≤ M) (h2 : hgtT f.c ≤ M) (h3 : hgtT t ≤ M) (h4 : hgtT s ≤ M) : HOk (M + 1) (lamF f t s k) := by
  refine ⟨?_, ?_, ?_, ?_⟩ <;> unfold lamF <;> split
  · exact ⟨fit_mx hf.i hf.j, tok_pi hf.a hf.b, tok_pi hf.c hf.d, tok_lam hf.a ht, tok_lam hf.c hs, tok_six (by unfold fit; omega) hf (by simp) (by simp [tok_lam hf.a ht, tok_lam hf.c hs, hk])⟩
  · exact ok_zH
  · exact mx_le hi hj
  · exact (hok_zH (by omega : 1 ≤ M + 1)).i
  · exact hgt2 _ _ _ _ _ _ M h1 h3
  · exact (hok_zH (by omega : 1 ≤ M + 1)).x
  · exact hgt2 _ _ _ _ _ _ M h2 h4
  · exact (hok_zH (by omega : 1 ≤ M + 1)).y
theorem hok_fst {N : Nat} {f : FT} {s : HT} (hf : f.ok) (hi : 0 ≤ f.i ∧ f.i ≤ 1000) (hs : HOk N s) : HOk (N + 1) (fstF f s) := by
  refine ⟨?_, ?_, ?_, ?_⟩ <;> unfold fstF <;> split
  · exact ⟨hf.i, hf.a, hf.c, tok_part (by unfold fit; omega) hs.ok.x, tok_part (by unfold fit; omega) hs.ok.y, tok_six (by unfold fit; omega) hf (by simp) (by simp [hs.ok.x, hs.ok.y, hs.ok.h])⟩
  · exact ok_zH
  · exact hi
  · exact (hok_zH (by omega : 1 ≤ N + 1)).i
  · have := hgt_part 18 s.x; have := hs.x; show hgtT (tpart 18 s.x) ≤ N + 1; omega
  · exact (hok_zH (by omega : 1 ≤ N + 1)).x
  · have := hgt_part 18 s.y; have := hs.y; show hgtT (tpart 18 s.y) ≤ N + 1; omega
  · exact (hok_zH (by omega : 1 ≤ N + 1)).y
theorem hok_snd {N : Nat} {f : FT} {s : HT} (hf : f.ok) (hj : 0 ≤ f.j ∧ f.j ≤ 1000) (hs : HOk N s) : HOk (N + 1) (sndF f s) := by
  refine ⟨?_, ?_, ?_, ?_⟩ <;> unfold sndF <;> split
  · rename_i h
    simp only [Bool.and_eq_true] at h
    obtain ⟨pb, pd⟩ := fam_of h.1
    obtain ⟨px, py⟩ := told_of h.2
    have ox : TOk (tpart 18 s.x) := tok_part (by unfold fit; omega) hs.ok.x
    have oy : TOk (tpart 18 s.y) := tok_part (by unfold fit; omega) hs.ok.y
    exact ⟨hf.j, tok_putF ox hf.b (plain_part px) pb, tok_putF oy hf.d (plain_part py) pd, tok_part (by unfold fit; omega) hs.ok.x, tok_part (by unfold fit; omega) hs.ok.y, tok_six (by unfold fit; omega) hf (by simp) (by simp [hs.ok.x, hs.ok.y, hs.ok.h])⟩
  · exact ok_zH
  · exact hj
  · exact (hok_zH (by omega : 1 ≤ N + 1)).i
  · have := hgt_part 19 s.x; have := hs.x; show hgtT (tpart 19 s.x) ≤ N + 1; omega
  · exact (hok_zH (by omega : 1 ≤ N + 1)).x
  · have := hgt_part 19 s.y; have := hs.y; show hgtT (tpart 19 s.y) ≤ N + 1; omega
  · exact (hok_zH (by omega : 1 ≤ N + 1)).y
theorem hok_app {N : Nat} {f : FT} {s r : HT} (hf : f.ok) (hj : 0 ≤ f.j ∧ f.j ≤ 1000) (hs : HOk N s) (hr : HOk N r) : HOk (N + 1) (appF f s r) := by
  refine ⟨?_, ?_, ?_, ?_⟩ <;> unfold appF <;> split
  · rename_i h
    simp only [Bool.and_eq_true] at h
    obtain ⟨pb, pd⟩ := fam_of h.1
    obtain ⟨px, py⟩ := told_of h.2.2
    exact ⟨hf.j, tok_putF hr.ok.x hf.b px pb, tok_putF hr.ok.y hf.d py pd, tok_two (by unfold fit; omega) hs.ok.x hr.ok.x, tok_two (by unfold fit; omega) hs.ok.y hr.ok.y, tok_six (by unfold fit; omega) hf (by simp) (by simp [hr.ok.x, hr.ok.y, hr.ok.h, hs.ok.x, hs.ok.y, hs.ok.h])⟩
  · exact ok_zH
  · exact hj
  · exact (hok_zH (by omega : 1 ≤ N + 1)).i
  · exact hgt2 _ _ _ _ _ _ N hs.x hr.x
  · exact (hok_zH (by omega : 1 ≤ N + 1)).x
  · exact hgt2 _ _ _ _ _ _ N hs.y hr.y
  · exact (hok_zH (by omega : 1 ≤ N + 1)).y
theorem hok_pair {N : Nat} {f : FT} {r s : HT} (hf : f.ok) (hi : 0 ≤ f.i ∧ f.i ≤ 1000) (hj : 0 ≤ f.j ∧ f.j ≤ 1000) (hr : HOk N r) (hs : HOk N s) (h1 : hgtT f.a ≤ N) (h2 : hgtT f.b ≤ N) (h3 : hgtT f.c ≤ N) (h4 : hgtT f.d ≤ N) : HOk (N + 1) (pairF f r s) := by
  refine ⟨?_, ?_, ?_, ?_⟩ <;> unfold pairF <;> split
  · exact ⟨fit_mx hf.i hf.j, tok_sig hf.a hf.b, tok_sig hf.c hf.d, tok_k (by unfold fit; omega) (by simp) (by simp [hf.a, hf.b, hr.ok.x, hs.ok.x]), tok_k (by unfold fit; omega) (by simp) (by simp [hf.c, hf.d, hr.ok.y, hs.ok.y]), tok_six (by unfold fit; omega) hf (by simp) (by simp [hr.ok.x, hr.ok.y, hr.ok.h, hs.ok.x, hs.ok.y, hs.ok.h])⟩
  · exact ok_zH
  · exact mx_le hi hj
  · exact (hok_zH (by omega : 1 ≤ N + 1)).i
  · exact hgt4 _ _ _ _ _ _ _ _ N h1 h2 hr.x hs.x
  · exact (hok_zH (by omega : 1 ≤ N + 1)).x
  · exact hgt4 _ _ _ _ _ _ _ _ N h3 h4 hr.y hs.y
  · exact (hok_zH (by omega : 1 ≤ N + 1)).y
theorem hok_refl {N : Nat} {i : Int} {a c e : Tm} {r : HT} (hi : 0 ≤ i ∧ i ≤ 1000) (ha : TOk a) (hc : TOk c) (he : TOk e) (hr : HOk N r) (h1 : hgtT a ≤ N) (h2 : hgtT c ≤ N) : HOk (N + 1) (creflF i a c e r) := by
  have fi : fit i := by unfold fit; omega
  refine ⟨?_, ?_, ?_, ?_⟩ <;> unfold creflF <;> split
  · exact ⟨fi, tok_k (by unfold fit; omega) (by simp) (by simp [ha, hr.ok.x]), tok_k (by unfold fit; omega) (by simp) (by simp [hc, hr.ok.y]), tok_k (by unfold fit; omega) (by simp) (by simp [ha, hr.ok.x]), tok_k (by unfold fit; omega) (by simp) (by simp [hc, hr.ok.y]), tok_us (by unfold fit; omega) fi (by unfold fit; omega) (by simp) (by simp [ha, hc, he, hr.ok.x, hr.ok.y, hr.ok.h])⟩
  · exact ok_zH
  · exact hi
  · exact (hok_zH (by omega : 1 ≤ N + 1)).i
  · exact hgt2 _ _ _ _ _ _ N h1 hr.x
  · exact (hok_zH (by omega : 1 ≤ N + 1)).x
  · exact hgt2 _ _ _ _ _ _ N h2 hr.y
  · exact (hok_zH (by omega : 1 ≤ N + 1)).y
/-! Environments -/
def PBk (V : Int) (t : Tm) : Prop := TOk t ∧ plainT t = true ∧ hgtT t ≤ 900 ∧ freeR t ≤ V
structure GB (V : Int) (g : HT) : Prop where
  i : 0 ≤ g.i ∧ g.i ≤ 998
  a : PBk V g.a
  b : PBk V g.b
  x : VOk V g.x
  y : VOk V g.y
  h : PBk V g.h
theorem lift_pbk {V k : Int} (hk : 0 ≤ k) (hk2 : k ≤ 10) (hV : V ≤ 100000) {t : Tm} (h : PBk V t) : PBk (V + k) (liftF k t) := by
  obtain ⟨h1, h2, h3, h4⟩ := h
  obtain ⟨u, hu⟩ := lift_some k hk t 2 0 V h2 h4 (by omega)
  have e : liftF k t = u := by unfold liftF; rw [hu]; rfl
  rw [e]
  exact ⟨lift_ok k hk t h1 2 0 u h2 hu, lift_right k hk t 2 0 u h2 hu, by have := lift_hgt k t 0 u hu; omega, by have := lift_free k hk t 2 0 u h2 hu; omega⟩
theorem gb_right {V : Int} (hV : V ≤ 100000) {g : HT} (h : GB V g) : hrightB g = true := by
  have h1 := h.a.2.1
  have h2 := h.b.2.1
  have h3 := (vok_plain hV h.x).2.1
  have h4 := (vok_plain hV h.y).2.1
  have h5 := h.h.2.1
  have h6 : lev2 g.i = true := by
    unfold lev2
    have := h.i
    simp; omega
  unfold hrightB
  simp [h1, h2, h3, h4, h5, h6]
theorem gb_ok {V : Int} (hV : V ≤ 100000) {g : HT} (h : GB V g) : g.ok ∧ g.low := by
  have h3 := vok_plain hV h.x
  have h4 := vok_plain hV h.y
  refine ⟨⟨by have := h.i; unfold fit; omega, h.a.1, h.b.1, h3.1, h4.1, h.h.1⟩, ⟨?_, ?_, ?_, ?_, ?_⟩⟩
  · have := h.a.2.2.1; omega
  · have := h.b.2.2.1; omega
  · have := h3.2.2.1; omega
  · have := h4.2.2.1; omega
  · have := h.h.2.2.1; omega
theorem lift_gb {V k : Int} (hk : 0 ≤ k) (hk2 : k ≤ 10) (hV : V ≤ 90000) {g : HT} (h : GB V g) : GB (V + k) (liftHF k g) := by
  have hG : GB (V + k) (liftG k g) := ⟨h.i, lift_pbk hk hk2 (by omega) h.a, lift_pbk hk hk2 (by omega) h.b, lift_vok hk hk2 (by omega) h.x, lift_vok hk hk2 (by omega) h.y, lift_pbk hk hk2 (by omega) h.h⟩
  have e : liftHF k g = liftG k g := by
    unfold liftHF
    rw [if_pos (by rw [gb_right (by omega) h, gb_right (by omega) hG]; simp [hk])]
  rw [e]
  exact hG
def EA (V : Int) (n : Nat) (E : List HT) : Prop := E.length = n ∧ ∀ g ∈ E, GB V g
theorem pok_pbk {V : Int} {t : Tm} (h : POk V t) : PBk V t := ⟨h.1, h.2.1, by have := h.2.2.1; omega, h.2.2.2⟩
theorem vok_pbk {V : Int} (hV0 : 0 ≤ V) : PBk (V + 3) (vr 0) := by
  have := vok_plain (V := 1) (by omega) (t := vr 0) ⟨0, rfl, by omega, by omega⟩
  exact ⟨this.1, this.2.1, by have := this.2.2.1; omega, by have := this.2.2.2; omega⟩
theorem ea_three {V : Int} (hV0 : 0 ≤ V) (hV : V ≤ 90000) {E : List HT} {n : Nat} (hE : EA V n E) {i : Int} (hi : 0 ≤ i ∧ i ≤ 998) {a b : Tm} (ha : PBk V a) (hb : PBk V b) : EA (V + 3) (n + 1) (threeF E i a b) := by
  refine ⟨by unfold threeF; simp [hE.1], fun g hg => ?_⟩
  unfold threeF at hg
  rcases List.mem_append.1 hg with hg | hg
  · obtain ⟨u, hu, rfl⟩ := List.mem_map.1 hg
    exact lift_gb (by decide) (by decide) hV (hE.2 u hu)
  · rcases List.mem_singleton.1 hg with rfl
    exact ⟨hi, lift_pbk (by decide) (by decide) (by omega) ha, lift_pbk (by decide) (by decide) (by omega) hb, ⟨2, rfl, by omega, by omega⟩, ⟨1, rfl, by omega, by omega⟩, vok_pbk hV0⟩
theorem ea_vars {V : Int} {E : List HT} {n : Nat} (hE : EA V n E) (r : Bool) : VarL V (sideL E r) := by
  intro u hu
  unfold sideL at hu
  obtain ⟨g, hg, rfl⟩ := List.mem_map.1 hu
  have := hE.2 g (List.mem_reverse.1 hg)
  cases r
  · exact this.x
  · exact this.y
theorem below_vars {V : Int} (hV0 : 0 ≤ V) (hV : V ≤ 90000) {E : List HT} {n : Nat} (hE : EA V n E) (r : Bool) : VarL (V + 1) (sideL (belowE E) r) := by
  intro u hu
  unfold sideL at hu
  obtain ⟨g, hg, rfl⟩ := List.mem_map.1 hu
  have hg := List.mem_reverse.1 hg
  unfold belowE at hg
  rcases List.mem_append.1 hg with hg | hg
  · obtain ⟨w, hw, rfl⟩ := List.mem_map.1 hg
    have := lift_gb (k := 1) (by decide) (by decide) hV (hE.2 w hw)
    cases r
    · exact this.x
    · exact this.y
  · rcases List.mem_singleton.1 hg with rfl
    cases r
    · exact ⟨0, rfl, by omega, by omega⟩
    · exact ⟨0, rfl, by omega, by omega⟩
theorem sd_ok {V : Int} (hV0 : 0 ≤ V) (hV : V ≤ 90000) {L : List Tm} (hL : VarL V L) {t : Tm} (ht : TOk t) (hm : markT t = true) (hh : hgtT t ≤ 300) (hf : freeR t ≤ L.length) : POk V (sideT L (stripT t)) := by
  obtain ⟨s1, s2, s3⟩ := strip_of t ht hm
  have s4 := free_strip t hm
  obtain ⟨v, hv1, hv2, hv3, hv4, hv5⟩ := all_of_vars hL hV0 (by omega) (stripT t) s2 2 0 s1 (by omega) (by omega) (by omega)
  unfold sideT
  rw [hv1, Option.getD_some]
  exact ⟨hv2, hv3, by omega, by omega⟩
theorem sd_plain {V : Int} (hV0 : 0 ≤ V) (hV : V ≤ 90000) {L : List Tm} (hL : VarL V L) {t : Tm} (ht : TOk t) (hm : plainT t = true) (hh : hgtT t ≤ 300) (hf : freeR t ≤ L.length) : POk V (sideT L t) := by
  obtain ⟨v, hv1, hv2, hv3, hv4, hv5⟩ := all_of_vars hL hV0 (by omega) t ht 2 0 hm (by omega) (by omega) (by omega)
  unfold sideT
  rw [hv1, Option.getD_some]
  exact ⟨hv2, hv3, by omega, by omega⟩
theorem hgt_le_siz (t : Tm) : hgtT t ≤ sizT t := by
  induction t using Tm.ind with
  | h k i j n l ih =>
    rw [hgtT_mk, sizT_mk]
    have : hgtL l ≤ sizL l := hgtL_le (fun t ht => Nat.le_trans (ih t ht) (siz_mem ht))
    omega
end Go.Proofs.YtkldipbhenabfaaGreat.Abs

