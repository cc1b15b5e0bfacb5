/- What is made is right and plain; the laws' wakes; the laws HetPoints, HetThen, HetEnds as contracts. -/
import Derived.Test.YtkldipbhenabfaaGreatFm
set_option linter.unusedSimpArgs false
set_option linter.unusedVariables false
namespace Go.Proofs.YtkldipbhenabfaaGreat.Abs
open Go Go.RowKit Go.Proofs.YtkldipbhenabfaaGreat

theorem ok_zH : zH.ok := ⟨by simp only [zH]; unfold fit; omega, tok_zT, tok_zT, tok_zT, tok_zT, tok_zT⟩
theorem tok_pointF {i : Int} {a x : Tm} (ha : TOk a) (hx : TOk x) : TOk (pointF i a x) := by
  unfold pointF
  split
  · rename_i h
    simp only [Bool.and_eq_true] at h
    exact tok_pt (fit_lev h.1) ha hx
  · exact tok_zT
theorem tok_pointsF {i : Int} : TOk (pointsF i) := by
  unfold pointsF
  split
  · rename_i h; exact tok_pts (fit_lev h)
  · exact tok_zT
theorem tok_typeF {g : HT} (hg : g.ok) : TOk (typeF g) := by
  unfold typeF
  split
  · exact tok_us (by unfold fit; omega) hg.i (by unfold fit; omega) (by simp) (by simp [hg.a, hg.b, hg.x, hg.y])
  · exact tok_zT
theorem tok_eqF {g : HT} (hg : g.ok) : TOk (eqF g) := by
  unfold eqF
  split
  · exact tok_us (by unfold fit; omega) hg.i (by unfold fit; omega) (by simp) (by simp [hg.a, hg.h, hg.x, hg.y])
  · exact tok_zT
theorem ok_selfF {i : Int} {a x : Tm} (ha : TOk a) (hx : TOk x) : (selfF i a x).ok := by
  unfold selfF
  split
  · rename_i h
    simp only [Bool.and_eq_true] at h
    have hi := fit_lev h.1
    exact ⟨hi, ha, ha, hx, hx, tok_k (by unfold fit; omega) (by simp) (by simp [tok_pts hi, tok_pt hi ha hx])⟩
  · exact ok_zH
theorem ok_turnF {g : HT} (hg : g.ok) : (turnF g).ok := by
  unfold turnF
  split
  · rename_i h
    have hl := (hright_of h).1
    exact ⟨hg.i, hg.b, hg.a, hg.y, hg.x, tok_us (by unfold fit; omega) (fit_lev1 hl) (by unfold fit; omega) (by simp) (by simp [tok_pts (fit_lev hl), tok_pt (fit_lev hl) hg.a hg.x, tok_pt (fit_lev hl) hg.b hg.y, hg.h])⟩
  · exact ok_zH
theorem ok_thenF {g h : HT} (hg : g.ok) (hh : h.ok) : (thenF g h).ok := by
  unfold thenF
  split
  · rename_i hb
    simp only [Bool.and_eq_true] at hb
    have hl := (hright_of hb.1).1
    exact ⟨hg.i, hg.a, hh.b, hg.x, hh.y, tok_us (by unfold fit; omega) (fit_lev1 hl) (by unfold fit; omega) (by simp) (by simp [tok_pts (fit_lev hl), tok_pt (fit_lev hl) hg.a hg.x, tok_pt (fit_lev hl) hg.b hg.y, tok_pt (fit_lev hl) hh.b hh.y, hg.h, hh.h])⟩
  · exact ok_zH
theorem ok_ofF {i : Int} {a x y e : Tm} (ha : TOk a) (hx : TOk x) (hy : TOk y) (he : TOk e) : (ofF i a x y e).ok := by
  unfold ofF
  split
  · rename_i h
    simp only [Bool.and_eq_true] at h
    have hi := fit_lev h.1
    exact ⟨hi, ha, ha, hx, hy, tok_us (by unfold fit; omega) hi (by unfold fit; omega) (by simp) (by simp [ha, hx, hy, he])⟩
  · exact ok_zH
theorem ok_movedF {i : Int} {a b p x : Tm} (ha : TOk a) (hb : TOk b) (hp : TOk p) (hx : TOk x) : (movedF i a b p x).ok := by
  unfold movedF
  split
  · rename_i h
    simp only [Bool.and_eq_true] at h
    have hi := fit_lev h.1
    exact ⟨hi, ha, hb, hx, tok_us (by unfold fit; omega) hi (by unfold fit; omega) (by simp) (by simp [ha, hb, hp, hx]), tok_us (by unfold fit; omega) hi (by unfold fit; omega) (by simp) (by simp [ha, hb, hp, hx])⟩
  · exact ok_zH

/-! Plain -/
theorem plain_node {k : Int} {l : List Tm} (h : rightN k 0 0 0 2 l.length = true) (hl : l.all plainT = true) : plainT (.mk k 0 0 0 l) = true := by
  show rightT _ 2 = true
  rw [plain_kids, h, hl]; rfl
theorem lev_le {i : Int} (h : lev2 i = true) : lev i = true ∧ lev (i + 1) = true := by
  have := lev2_le h
  unfold lev
  simp; omega
theorem plain_so {i : Int} (h : lev i = true) : plainT (so i) = true := by
  unfold so
  show rightT _ 2 = true
  rw [plain_kids]
  unfold rightN numsB
  rw [if_pos (by simp), h]; rfl
theorem plain_pts {i : Int} (h : lev i = true) : plainT (pts i) = true := plain_node (by rfl) (by simp only [List.all_cons, List.all_nil, plain_so h]; rfl)
theorem plain_pt {i : Int} {a x : Tm} (h : lev i = true) (ha : plainT a = true) (hx : plainT x = true) : plainT (pt i a x) = true := plain_node (by rfl) (by simp only [List.all_cons, List.all_nil, plain_so h, ha, hx]; rfl)
theorem plain_us {n i j : Int} {l : List Tm} (hn : (l.length : Int) = takesN n) (hi : lev i = true) (hj : lev j = true) (hl : l.all plainT = true) : plainT (us n i j l) = true := by
  unfold us
  show rightT _ 2 = true
  rw [plain_kids, hl, Bool.and_true]
  unfold rightN numsB kidsN
  rw [if_pos rfl, if_neg (by decide), if_neg (by decide), if_neg (by decide), if_pos rfl, hn, hi, hj, bne_self_eq_false]
  rfl

theorem hright_turn {g : HT} (h : hrightB g = true) : hrightB (turnF g) = true := by
  obtain ⟨hl, pa, pb, px, py, ph⟩ := hright_of h
  have h2 := lev_le hl
  unfold turnF
  rw [if_pos h]
  unfold hrightB
  have e : plainT (us 3 (g.i + 1) 0 [pts g.i, pt g.i g.a g.x, pt g.i g.b g.y, g.h]) = true := plain_us (by rfl) h2.2 (by decide) (by simp only [List.all_cons, List.all_nil, plain_pts h2.1, plain_pt h2.1 pa px, plain_pt h2.1 pb py, ph]; rfl)
  simp only [plains, List.all_cons, List.all_nil, hl, pa, pb, px, py, e]
  rfl

theorem turnF_ends {g : HT} (h : hrightB g = true) : turnF g = ⟨g.i, g.b, g.a, g.y, g.x, (turnF g).h⟩ := by
  unfold turnF
  rw [if_pos h]

/-! Cells -/
theorem tv_0 {t : Tm} : (tv t)[0]? = some (.int .i64 t.k) := by cases t; rw [tv_mk]; rfl
theorem tv_3 {t : Tm} : (tv t)[3]? = some (.int .i64 t.n) := by cases t; rw [tv_mk]; rfl
theorem hv_21 {i : Int} {a b x y h : Tm} : (hv i a b x y h)[21]? = some (.int .i64 h.k) := by simp [hv, tv_cells]

theorem hv_lens {g : HT} : g.v.length = 26 := hv_len

end Go.Proofs.YtkldipbhenabfaaGreat.Abs
