/- Terms for variables: that they come to something, of which height, with which free variables. Plain Lean. -/
import Derived.Test.YtkldipbhenabfaaGreatRKb
set_option linter.unusedSimpArgs false
set_option linter.unusedVariables false
namespace Go.Proofs.YtkldipbhenabfaaGreat.Abs
open Go Go.RowKit Go.Proofs.YtkldipbhenabfaaGreat

theorem allS_get {α β : Type} {X : Nat → α → Option β} {d : α} {e : β} : ∀ {l : List α} {p : Nat} {r : List β}, allS X p l = some r → ∀ x, x < l.length → X (p + x) (l[x]?.getD d) = some (r[x]?.getD e) := by
  intro l
  induction l with
  | nil => intro p r _ x hx; simp at hx
  | cons y l ih =>
    intro p r h x hx
    rw [allS] at h
    split at h
    · cases h
    · rename_i u hu
      split at h
      · cases h
      · rename_i r' hr
        cases h
        cases x with
        | zero => simpa using hu
        | succ x =>
          have := ih hr x (by simpa using hx)
          rw [show p + (x + 1) = p + 1 + x by omega]
          simpa using this
theorem allS_ex {α β : Type} {X : Nat → α → Option β} {d : α} : ∀ {l : List α} {p : Nat}, (∀ x, x < l.length → ∃ u, X (p + x) (l[x]?.getD d) = some u) → ∃ r, allS X p l = some r := by
  intro l
  induction l with
  | nil => intro p _; exact ⟨[], rfl⟩
  | cons y l ih =>
    intro p h
    obtain ⟨u, hu⟩ := h 0 (by simp)
    obtain ⟨r, hr⟩ := ih (p := p + 1) (fun x hx => by
      have := h (x + 1) (by simpa using hx)
      rw [show p + (x + 1) = p + 1 + x by omega] at this
      simpa using this)
    refine ⟨u :: r, ?_⟩
    have hu' : X p y = some u := by simpa using hu
    rw [allS, hu', hr]
theorem allI_at {α : Type} {f : Nat → α → Bool} {d : α} : ∀ {l : List α} {p : Nat}, allI f p l = true → ∀ {x : Nat}, x < l.length → f (p + x) (l[x]?.getD d) = true := by
  intro l
  induction l with
  | nil => intro p _ x hx; simp at hx
  | cons y l ih =>
    intro p h x hx
    rw [allI, Bool.and_eq_true] at h
    cases x with
    | zero => simpa using h.1
    | succ x =>
      have := ih h.2 (x := x) (by simpa using hx)
      rw [show p + (x + 1) = p + 1 + x by omega]
      simpa using this
theorem right_kid' {k i j n w : Int} {l : List Tm} (h : rightT (.mk k i j n l) w = true) {x : Nat} (hx : x < l.length) : ∃ w', rightT (l[x]?.getD default) w' = true := right_kid h (get_lt hx)
theorem hgt_pos (t : Tm) : 1 ≤ hgtT t := by cases t with | mk k i j n l => rw [hgtT_mk]; omega

theorem lift_some (k : Int) (hk : 0 ≤ k) (t : Tm) : ∀ (w fr D : Int), rightT t w = true → freeR t ≤ D → D + 2 * hgtT t + k ≤ 2147483647 → ∃ u, liftT k fr t = some u := by
  induction t using Tm.ind with
  | h kk i j n l ih =>
    intro w fr D hr hD hb
    rw [hgtT_mk] at hb
    rw [liftT_mk]
    have hI : ∃ i', liftI kk i k fr = some i' := by
      unfold liftI
      split
      · rename_i h
        rw [freeR, if_pos h.1] at hD
        rw [if_neg (by omega)]
        exact ⟨_, rfl⟩
      · exact ⟨_, rfl⟩
    obtain ⟨i', hI⟩ := hI
    rw [hI, Option.bind_some]
    obtain ⟨r, hr'⟩ := allS_ex (X := fun p t => liftT k (fr + bindsN kk p) t) (d := default) (l := l) (p := 0) (fun x hx => by
      by_cases hk2 : kk = 2
      · subst hk2
        have := var_kids hr
        subst this
        simp at hx
      · obtain ⟨w', hw⟩ := right_kid' hr hx
        have h1 := free_kid (i := i) (j := j) (n := n) hk2 hx
        have h2 := hgt_mem (get_lt (d := default) hx)
        have h3 := binds_le kk x
        exact ih _ (get_lt hx) w' _ (D + bindsN kk x) hw (by omega) (by omega))
    rw [hr']
    exact ⟨_, rfl⟩
theorem lift_hgt (k : Int) (t : Tm) : ∀ fr u, liftT k fr t = some u → hgtT u ≤ hgtT t := by
  induction t using Tm.ind with
  | h kk i j n l ih =>
    intro fr u hu
    rw [liftT_mk] at hu
    cases hI : liftI kk i k fr with
    | none => rw [hI] at hu; cases hu
    | some i' =>
      rw [hI, Option.bind_some] at hu
      cases hA : allS (fun p t => liftT k (fr + bindsN kk p) t) 0 l with
      | none => rw [hA] at hu; cases hu
      | some us =>
        rw [hA] at hu
        cases hu
        rw [hgtT_mk, hgtT_mk]
        have : hgtL us ≤ hgtL l := hgtL_le (allS_all hA (fun q x hx u hu => by
          have := ih x hx _ u hu
          have := hgt_mem hx
          omega))
        omega
theorem lift_free (k : Int) (hk : 0 ≤ k) (t : Tm) : ∀ w fr u, rightT t w = true → liftT k fr t = some u → freeR u ≤ freeR t + k := by
  induction t using Tm.ind with
  | h kk i j n l ih =>
    intro w fr u hr hu
    have hp := (freeR_bd _ w hr).1
    rw [liftT_mk] at hu
    cases hI : liftI kk i k fr with
    | none => rw [hI] at hu; cases hu
    | some i' =>
      rw [hI, Option.bind_some] at hu
      cases hA : allS (fun p t => liftT k (fr + bindsN kk p) t) 0 l with
      | none => rw [hA] at hu; cases hu
      | some us =>
        rw [hA] at hu
        cases hu
        by_cases hk2 : kk = 2
        · rw [freeR, freeR, if_pos hk2, if_pos hk2]
          unfold liftI at hI
          split at hI
          · split at hI
            · cases hI
            · cases hI; omega
          · cases hI; omega
        · rw [freeR_mk (l := us) hk2]
          refine pm_le (by omega) (fun y hy => ?_)
          have hyl : y < l.length := by rw [allS_len hA] at hy; exact hy
          have h1 := allS_get (d := default) (e := default) hA y hyl
          rw [Nat.zero_add] at h1
          obtain ⟨w', hw⟩ := right_kid' hr hyl
          have h2 := ih _ (get_lt hyl) w' _ _ hw h1
          have h3 := free_kid (i := i) (j := j) (n := n) hk2 hyl
          omega

def VarL (V : Int) (L : List Tm) : Prop := ∀ u ∈ L, ∃ v : Int, u = vr v ∧ 0 ≤ v ∧ v + 1 ≤ V
theorem vr_plain {v : Int} (h : 0 ≤ v) (h2 : v ≤ 2147483647) : plainT (vr v) = true := by
  show rightT (.mk 2 v 0 0 []) 2 = true
  rw [rightT_mk]
  unfold rightN
  simp [sortN, kidsN, tab, numsB, h, h2, allI]
theorem freeR_vr (v : Int) : freeR (vr v) = v + 1 := by unfold vr; rw [freeR, if_pos rfl]
theorem hgt_vr (v : Int) : hgtT (vr v) = 1 := by unfold vr; rw [hgtT_mk, hgtL]
theorem varL_put {V : Int} {L : List Tm} (h : VarL V L) (hV : V ≤ 100000) (hn : L.length ≤ 1000) : PutOk L := by
  refine ⟨hn, fun u hu => ?_⟩
  obtain ⟨v, rfl, h1, h2⟩ := h u hu
  exact ⟨tok_vr (by unfold fit; omega), vr_plain h1 (by omega), by rw [hgt_vr]; omega⟩
theorem all_of_vars {V : Int} {L : List Tm} (hL : VarL V L) (hV0 : 0 ≤ V) (hV : V ≤ 100000) (t : Tm) : TOk t → ∀ (w d : Int), rightT t w = true → 0 ≤ d → d + 2 * hgtT t ≤ 100000 → freeR t - d ≤ L.length →
    ∃ v, allT L d t = some v ∧ TOk v ∧ rightT v w = true ∧ hgtT v ≤ hgtT t ∧ freeR v ≤ V + d := by
  induction t using Tm.ind with
  | h kk i j n l ih =>
    intro hok w d hr hd hb hf
    obtain ⟨f1, f2, f3, f4, hbl, hl⟩ := tok_of hok
    rw [hgtT_mk] at hb
    by_cases hv : kk = 2 ∧ d ≤ i
    · obtain ⟨rfl, hdi⟩ := hv
      obtain ⟨i1, i2⟩ := right_var hr rfl
      rw [freeR, if_pos rfl] at hf
      have hn : (i - d).toNat < L.length := by omega
      obtain ⟨v, hv, v1, v2⟩ := hL _ (List.getElem_mem hn)
      have hw2 : w = 0 ∨ w ≠ 0 := by omega
      have ho : TOk (vr v) := tok_vr (by unfold fit; omega)
      have hp := vr_plain v1 (show v ≤ 2147483647 by omega)
      obtain ⟨u, hu⟩ := lift_some d hd (vr v) 2 0 (v + 1) hp (by rw [freeR_vr]; omega) (by rw [hgt_vr]; omega)
      refine ⟨u, ?_, lift_ok d hd _ ho 2 0 u hp hu, ?_, ?_, ?_⟩
      · rw [allT_var ⟨rfl, hdi⟩ (u := vr v) (by rw [List.getElem?_eq_getElem hn, hv])]
        exact hu
      · refine lift_right d hd _ w 0 u ?_ hu
        show rightT (.mk 2 v 0 0 []) w = true
        rw [rightT_mk]
        unfold rightN
        simp [sortN, kidsN, tab, numsB, v1, show v ≤ 2147483647 by omega, allI]
      · have := lift_hgt d _ _ _ hu
        rw [hgt_vr] at this
        rw [hgtT_mk]; omega
      · have := lift_free d hd _ 2 _ _ hp hu
        rw [freeR_vr] at this
        omega
    · have key : ∀ x, x < l.length → ∃ v, allT L (d + bindsN kk (x : Nat)) (l[x]?.getD default) = some v ∧ TOk v ∧ (∀ w', rightT (l[x]?.getD default) w' = true → rightT v w' = true) ∧ hgtT v ≤ hgtT (l[x]?.getD default) ∧ freeR v ≤ V + (d + bindsN kk (x : Nat)) := fun x hx => by
        have hk2 : kk ≠ 2 := by
          intro h
          subst h
          have := var_kids hr
          subst this
          simp at hx
        obtain ⟨w', hw⟩ := right_kid' hr hx
        have h1 := free_kid (i := i) (j := j) (n := n) hk2 hx
        have h2 := hgt_mem (get_lt (d := default) hx)
        have h3 := binds_le kk x
        obtain ⟨v, g1, g2, g3, g4, g5⟩ := ih _ (get_lt hx) (hl _ (get_lt hx)) w' (d + bindsN kk (x : Nat)) hw (by omega) (by omega) (by omega)
        refine ⟨v, g1, g2, fun w'' hw'' => ?_, g4, g5⟩
        obtain ⟨v', k1, _, k3, _, _⟩ := ih _ (get_lt hx) (hl _ (get_lt hx)) w'' (d + bindsN kk (x : Nat)) hw'' (by omega) (by omega) (by omega)
        rw [g1] at k1
        cases k1
        exact k3
      obtain ⟨us, hA⟩ := allS_ex (X := fun p t => allT L (d + bindsN kk p) t) (d := default) (l := l) (p := 0) (fun x hx => by
        obtain ⟨v, hv, _⟩ := key x hx
        exact ⟨v, by rw [Nat.zero_add]; exact hv⟩)
      have hlen := allS_len hA
      have kus : ∀ x, x < us.length → TOk (us[x]?.getD default) ∧ (∀ w', rightT (l[x]?.getD default) w' = true → rightT (us[x]?.getD default) w' = true) ∧ hgtT (us[x]?.getD default) ≤ hgtT (l[x]?.getD default) ∧ freeR (us[x]?.getD default) ≤ V + (d + bindsN kk (x : Nat)) := fun x hx => by
        have hxl : x < l.length := by omega
        obtain ⟨v, g1, g2⟩ := key x hxl
        have h1 := allS_get (d := default) (e := default) hA x hxl
        rw [Nat.zero_add] at h1
        rw [g1] at h1
        cases h1
        exact g2
      have kmem : ∀ u ∈ us, ∃ x, x < us.length ∧ us[x]?.getD default = u := fun u hu => by
        obtain ⟨x, hx, rfl⟩ := List.getElem_of_mem hu
        exact ⟨x, hx, by rw [List.getElem?_eq_getElem hx]; rfl⟩
      refine ⟨.mk kk i j n us, ?_, .mk _ _ _ _ _ f1 f2 f3 f4 (by omega) (fun u hu => ?_), ?_, ?_, ?_⟩
      · rw [allT_node hv, hA]; rfl
      · obtain ⟨x, hx, rfl⟩ := kmem u hu
        exact (kus x hx).1
      · have hr2 := hr
        rw [rightT_mk, Bool.and_eq_true] at hr2 ⊢
        rw [hlen]
        refine ⟨hr2.1, ?_⟩
        refine allI_of (d := default) (fun y hy => ?_)
        have hyl : y < l.length := by omega
        refine (kus y hy).2.1 _ ?_
        have := allI_at (d := default) hr2.2 hyl
        rw [Nat.zero_add] at this ⊢
        exact this
      · rw [hgtT_mk, hgtT_mk]
        have : hgtL us ≤ hgtL l := hgtL_le (fun u hu => by
          obtain ⟨x, hx, rfl⟩ := kmem u hu
          have h1 := (kus x hx).2.2.1
          have h2 := hgt_mem (get_lt (d := default) (show x < l.length by omega))
          omega)
        omega
      · by_cases hk2 : kk = 2
        · have : ¬ d ≤ i := fun h => hv ⟨hk2, h⟩
          rw [freeR, if_pos hk2]
          omega
        · rw [freeR_mk hk2]
          refine pm_le (by omega) (fun y hy => ?_)
          have h1 := (kus y hy).2.2.2
          omega
end Go.Proofs.YtkldipbhenabfaaGreat.Abs

