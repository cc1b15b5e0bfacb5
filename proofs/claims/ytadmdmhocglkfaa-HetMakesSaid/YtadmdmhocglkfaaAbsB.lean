/- append. -/
import Derived.Test.YtadmdmhocglkfaaAbsA
set_option linter.unusedSimpArgs false
set_option linter.unusedVariables false
namespace Go.Proofs.Ytadmdmhocglkfaa.Abs
open Go Go.RowKit

section
variable {P : Program} {U : Nat → Prop} {w0 : World} {own : Nat → Prop} {E : Env} {w : World} {s : St} {a : Act}

/-- A slice whose elements are known: its cells in the world. -/
theorem els_read {sz : Nat} {xv : Value} {x : SV} {xs : List (List SV)} (hW : W w0 own E w) (hu : ∀ o, U o → E.H o = s.hp[o]?) (hx : RelV E xv x) (hi : ∀ o ∈ idsC x, U o) (he : elsOf s.hp sz x = some xs) :
    ∃ (A : Option Addr) (c : Nat), xv = .slice A xs.length c ∧ (∀ r ∈ xs, r.length = sz) ∧ (xs = [] ∨ ∃ (b off : Nat) (news : List Value), A = some ⟨b, off, none⟩ ∧ news.length = xs.length * sz ∧ (∀ j u, news[j]? = some u → w.cell? ⟨b, off + j, none⟩ = some u) ∧ (∀ u ∈ news, u.oneCell' = true) ∧
      (∀ (j : Nat) (v : Value) (y : SV), news[j]? = some v → xs.flatten[j]? = some y → Rep E.m v y)) := by
  cases x with
  | nils =>
    simp only [elsOf, Option.some.injEq] at he
    subst he
    cases hx.closed_rep rfl with
    | nils => exact ⟨none, 0, rfl, by simp, .inl rfl⟩
  | dsl sz' l =>
    simp only [elsOf] at he
    split at he
    rotate_left
    · cases he
    rename_i hs
    cases he
    subst hs
    cases hx.closed_rep rfl with
    | dsl0 _ A cap => exact ⟨A, cap, rfl, by simp, .inl rfl⟩
    | dsl _ _ cap b off vs h0 h1 h2 h3 h4 h5 h6 =>
      exact ⟨_, cap, rfl, h3, .inr ⟨b, off, vs, rfl, by rw [h4, flat_len h3], fun j u hju => hW.mem _ _ _ (h5 j u hju), h0, h6⟩⟩
  | osl o g off len =>
    have hU := hi o (by simp [idsC])
    cases hx with
    | rep _ _ hr => cases hr
    | osl _ _ _ _ A n cap ob ho hg hnc hcur0 =>
      have hcur := fun (h : ob.gen = g) => And.intro hnc.1 (And.intro hnc.2.1 (hcur0 h))
      simp only [elsOf] at he
      rw [← hu o hU, ho] at he
      simp only at he
      split at he
      rotate_left
      · cases he
      rename_i hc
      obtain ⟨hb, hgg, hsz⟩ := hc
      cases he
      obtain ⟨rfl, hlc, hfit, hA⟩ := hcur hgg
      have hk := hW.obs o ob ho
      have hrows : ∀ r ∈ (ob.els.drop off).take n, r.length = sz := fun r hr => by rw [← hsz]; exact hk.rows r (List.mem_of_mem_drop (List.mem_of_mem_take hr))
      have hlen : ((ob.els.drop off).take n).length = n := by simp; omega
      refine ⟨A, cap, by rw [hlen], hrows, ?_⟩
      rcases Nat.eq_zero_or_pos n with h0 | h0
      · left; subst h0; simp
      · right
        rcases hA with ⟨rfl, hfit2⟩ | hc0
        rotate_left
        · omega
        -- read the row through what frozen would read
        rcases Nat.eq_zero_or_pos (E.t o) with ht | ht
        · have hz0 : ob.sz = 0 := by
            have : n * ob.sz ≤ (off + cap) * ob.sz := Nat.mul_le_mul_right _ (by omega)
            have h3 : n * ob.sz = 0 := by omega
            rcases Nat.mul_eq_zero.1 h3 with h | h
            · omega
            · exact h
          refine ⟨_, _, [], rfl, by rw [← hsz, hz0]; simp, by simp, by simp, by simp⟩
        · obtain ⟨cc, ee, hl⟩ := hk.live ht
          have hcs := hl.size
          have hels := flat_len hk.rows
          have hmul : (off + n) * ob.sz ≤ ob.els.length * ob.sz := Nat.mul_le_mul_right _ hfit
          rw [Nat.add_mul] at hmul
          have hf := hk.fit
          have hfl : ((ob.els.drop off).take n).flatten = (ob.els.flatten.drop (off * ob.sz)).take (n * ob.sz) := by
            rw [flat_take (sz := ob.sz) (fun r hr => hk.rows r (List.mem_of_mem_drop hr)), flat_drop hk.rows]
          refine ⟨E.β o, off * ob.sz, (cc.toList.drop (off * ob.sz)).take (n * ob.sz), rfl, by rw [hlen, ← hsz]; simp; omega, fun j v hv => ?_, one_list hl.one (fun v hv => List.mem_of_mem_drop (List.mem_of_mem_take hv)), fun j v y hv hy => ?_⟩
          · rw [List.getElem?_take] at hv
            split at hv
            · have := getElem?_drop_some hv
              rw [cell_of hl.blk]; simpa using this
            · cases hv
          · rw [hfl, List.getElem?_take] at hy
            rw [List.getElem?_take] at hv
            split at hv
            · rename_i hj
              rw [if_pos hj] at hy
              have h1 := getElem?_drop_some hv
              have h2 := getElem?_drop_some hy
              exact hl.clo (.inl hb) _ v y (by simpa using h1) h2
            · cases hv
  | _ => simp [elsOf] at he

theorem run_append_idle {t ty e : TypeId} {i : TypeInfo} (ht : P.underlying t = some (.slice e)) (hi : P.info? e = some i) (B A : Option Addr) (n c c' : Nat) (hnc : n ≤ c) :
    (Builtin.append_ #[t, t] ty #[.slice B n c, .slice A 0 c']).run P w = .ok (.slice B n c) w := by
  have h1 : (Builtin.firstCells i.size 0 (.slice A 0 c')).run P w = .ok #[] w := by
    cases A with
    | none => simp [Builtin.firstCells]
    | some a => simp [Builtin.firstCells, loadCells, loadCellsFrom]
  cases B with
  | none => simp [Builtin.append_, run_underlying ht, sizeOf, typeInfo, hi, Builtin.lenOf, hnc, h1]
  | some b => simp [Builtin.append_, run_underlying ht, sizeOf, typeInfo, hi, Builtin.lenOf, hnc, h1, storeCells]

theorem run_append_room' {t ty e ee : TypeId} {i : TypeInfo} (ht : P.underlying t = some (.slice e)) (hi : P.info? e = some i)
    (g sLen sCap : Nat) (cur : Array Value) (hg : w.heap[g]? = some (.cells cur ee (0, 0)))
    (a : Addr) (m c : Nat) (news : List Value) (hl : news.length = m * i.size) (hnews : ∀ j u, news[j]? = some u → w.cell? (a.add j) = some u) (h1 : ∀ u ∈ news, u.oneCell' = true)
    (hroom : sLen + m ≤ sCap) (hfit : sLen * i.size + news.length ≤ cur.size) :
    (Builtin.append_ #[t, t] ty #[.slice (some ⟨g, 0, none⟩) sLen sCap, .slice (some a) m c]).run P w =
      .ok (.slice (some ⟨g, 0, none⟩) (sLen + m) sCap) (w.setRow g (cur.toList.take (sLen * i.size) ++ news ++ cur.toList.drop (sLen * i.size + news.length)).toArray) := by
  have hf := run_firstCells_some (P := P) w i.size m a m c news hl hnews
  have hst := run_storeCells_at P g (sLen * i.size) ee news 0 cur w hg (by simpa using hfit) h1
  simp only [Nat.add_zero] at hst
  simp [Builtin.append_, run_underlying ht, sizeOf, typeInfo, hi, Builtin.lenOf, hroom, hf, Addr.add_lit, hst]

theorem zeros_one {z : Array Value} {n : Nat} (h1 : ∀ v ∈ z.toList, v.oneCell' = true) (hz : 0 < z.size) (k : Nat) (v : Value) (hv : (Builtin.zeroCells z n)[k]? = some v) : v.oneCell' = true :=
  (made_one (n := n * z.size) h1 hz k v hv).1

/-- What a grown row holds. -/
theorem grown_row {sz : Nat} {z : Array Value} {olds news : List Value} {oe ne : List (List SV)} {q : Nat} (h1 : ∀ v ∈ z.toList, v.oneCell' = true) (hz : z.size = sz) (hpos : 0 < sz) (ho : ∀ r ∈ oe, r.length = sz) (hn : ∀ r ∈ ne, r.length = sz)
    (hol : olds.length = oe.length * sz) (hnl : news.length = ne.length * sz) (ho1 : ∀ u ∈ olds, u.oneCell' = true) (hn1 : ∀ u ∈ news, u.oneCell' = true)
    (hor : ∀ (j : Nat) (v : Value) (y : SV), olds[j]? = some v → oe.flatten[j]? = some y → Rep E.m v y) (hnr : ∀ (j : Nat) (v : Value) (y : SV), news[j]? = some v → ne.flatten[j]? = some y → Rep E.m v y) :
    (∀ (k : Nat) (v : Value), (olds.toArray ++ news.toArray ++ Builtin.zeroCells z q)[k]? = some v → v.oneCell' = true) ∧
    (∀ (k : Nat) (v : Value) (x : SV), (olds.toArray ++ news.toArray ++ Builtin.zeroCells z q)[k]? = some v → (oe ++ ne).flatten[k]? = some x → Rep E.m v x) := by
  have hof := flat_len ho
  have hnf := flat_len hn
  constructor
  · intro k v hv
    rw [Array.getElem?_append] at hv
    split at hv
    · rw [Array.getElem?_append] at hv
      split at hv
      · exact ho1 v (List.mem_of_getElem? (by simpa using hv))
      · exact hn1 v (List.mem_of_getElem? (by simpa using hv))
    · exact zeros_one h1 (by omega) _ v hv
  · intro k v x hv hx
    rw [List.flatten_append] at hx
    have hk : k < oe.flatten.length + ne.flatten.length := by
      rcases Nat.lt_or_ge k (oe.flatten ++ ne.flatten).length with h | h
      · simpa using h
      · rw [List.getElem?_eq_none h] at hx; cases hx
    rw [Array.getElem?_append] at hv
    split at hv
    · rw [Array.getElem?_append] at hv
      split at hv
      · rename_i hlt
        simp only [List.size_toArray] at hlt
        rw [List.getElem?_append_left (by omega)] at hx
        exact hor k v x (by simpa using hv) hx
      · rename_i hlt
        simp only [List.size_toArray] at hlt hv
        rw [List.getElem?_append_right (by omega)] at hx
        exact hnr (k - olds.length) v x (by simpa using hv) (by rw [← hol, ← hof] at *; simpa [hof, hol] using hx)
    · rename_i hlt
      simp at hlt
      omega

/-- The object behind an append, seen by the objects of U. -/
theorem app_step {o : Nat} {ob ob' : Ob} (hu : ∀ o, U o → E.H o = s.hp[o]?) (hU : U o) (hho : s.hp[o]? = some ob) {E' : Env} {w' : World} (h1 : Ext E E') (h2 : W w0 own E' w')
    (h3 : E'.H = (fun j => if j = o then some ob' else E.H j)) : Step U w0 own E E' w' (s.hp.set o ob') := by
  refine ⟨h1, h2, fun j hj => ?_, fun j hj => ?_⟩
  · rw [h3, set_get s.hp o j _ ob hho]
    by_cases hjo : j = o
    · simp [hjo]
    · simp only [if_neg hjo]; exact hu j hj
  · rw [h3]
    have : j ≠ o := by rintro rfl; exact hj hU
    simp only [if_neg this]

/-- Nothing is appended. -/
theorem app_idle {t ty e : TypeId} {i : TypeInfo} {o g n cap c : Nat} {ob : Ob} {A B : Option Addr} (hW : W w0 own E w) (ho : E.H o = some ob) (ht : P.underlying t = some (.slice e)) (hi : P.info? e = some i) (hgg : ob.gen = g)
    (hlc : n ≤ cap) (hfit : 0 + n ≤ ob.els.length) (hB : (B = some ⟨E.β o, 0 * ob.sz, none⟩ ∧ (0 + cap) * ob.sz ≤ E.t o) ∨ cap = 0) :
    ∃ E', (Builtin.append_ #[t, t] ty #[.slice B n cap, .slice A 0 c]).run P w = .ok (.slice B n cap) w ∧ RelV E' (.slice B n cap) (.osl o (g + 1) 0 n) ∧ Ext E E' ∧ W w0 own E' w ∧
      E'.H = (fun j => if j = o then some { ob with frz := ob.els.length, gen := g + 1 } else E.H j) := by
  have hk := hW.obs o ob ho
  have hr := run_append_idle (P := P) (w := w) (ty := ty) ht hi B A n cap c hlc
  have hval : ∀ {E' : Env}, E'.H = (fun j => if j = o then some { ob with frz := ob.els.length, gen := g + 1 } else E.H j) → E'.β = E.β → E'.t = E.t → RelV E' (.slice B n cap) (.osl o (g + 1) 0 n) := by
    intro E' h1 h2 h3
    refine .osl _ _ _ _ _ _ _ { ob with frz := ob.els.length, gen := g + 1 } (by rw [h1]; simp) (Nat.le_refl _) ⟨rfl, hlc, fun hp => by
      rcases hB with ⟨hB, _⟩ | h0
      · exact ⟨_, _, hB⟩
      · omega⟩ (fun _ => ⟨hfit, ?_⟩)
    rw [h2, h3]; exact hB
  rcases Nat.eq_zero_or_pos (E.t o) with ht0 | ht0
  · have hf0 := hk.fit
    rw [ht0] at hf0
    obtain ⟨E', a1, a2, a3, a4, a5, a6⟩ := hW.put0 (ob' := { ob with frz := ob.els.length, gen := g + 1 }) ho ht0 rfl (by simp [hgg]) (Nat.le_refl _) hk.rows (Nat.le_refl _) hf0 hk.box hk.bnd
    exact ⟨E', hr, hval a3 a4 a5, a1, a2, a3⟩
  · obtain ⟨cc, ee, hl⟩ := hk.live ht0
    obtain ⟨E', a1, a2, a3, a4, a5, a6, a7⟩ := hW.put (w' := w) (ob' := { ob with frz := ob.els.length, gen := g + 1 }) ho hl rfl rfl rfl rfl (fun _ _ => rfl) hl.blk rfl rfl (by simp [hgg]) (Nat.le_refl _) hk.frz
      (fun _ _ => rfl) hk.rows (Nat.le_refl _) (by rw [hl.size]; exact hk.fit) hk.box hk.bnd hl.one hl.rel hl.clo
    exact ⟨E', hr, hval a3 a4 a5, a1, a2, a3⟩

set_option maxHeartbeats 800000 in
/-- There is room. -/
theorem app_room {t ty e : TypeId} {i : TypeInfo} {o g n cap c b off : Nat} {ob : Ob} {xs : List (List SV)} {news : List Value} (hW : W w0 own E w) (ho : E.H o = some ob) (ht : P.underlying t = some (.slice e)) (hi : P.info? e = some i) (hgg : ob.gen = g)
    (hb : ob.box = false) (hisz : i.size = ob.sz) (hpos : 0 < ob.sz) (hlen : n = ob.els.length) (hfit2 : (0 + cap) * ob.sz ≤ E.t o) (hroom : n + xs.length ≤ cap) (hcap : 0 < cap) (hbnd : n + xs.length ≤ 140737488355328)
    (hrows : ∀ r ∈ xs, r.length = ob.sz) (hnl : news.length = xs.length * ob.sz) (hnews : ∀ j u, news[j]? = some u → w.cell? ⟨b, off + j, none⟩ = some u) (hn1 : ∀ u ∈ news, u.oneCell' = true)
    (hnr : ∀ (j : Nat) (v : Value) (y : SV), news[j]? = some v → xs.flatten[j]? = some y → Rep E.m v y) :
    ∃ w' E', (Builtin.append_ #[t, t] ty #[.slice (some ⟨E.β o, 0 * ob.sz, none⟩) n cap, .slice (some ⟨b, off, none⟩) xs.length c]).run P w = .ok (.slice (some ⟨E.β o, 0 * ob.sz, none⟩) (n + xs.length) cap) w' ∧
      RelV E' (.slice (some ⟨E.β o, 0 * ob.sz, none⟩) (n + xs.length) cap) (.osl o (g + 1) 0 (n + xs.length)) ∧ Ext E E' ∧ W w0 own E' w' ∧ w.heap.size ≤ w'.heap.size ∧
      E'.H = (fun j => if j = o then some { ob with els := ob.els ++ xs, frz := ob.els.length, gen := g + 1 } else E.H j) := by
  have hk := hW.obs o ob ho
  have hofl := flat_len hk.rows
  have hxfl := flat_len hrows
  have htpos : 0 < E.t o := by
    have : 1 * ob.sz ≤ (0 + cap) * ob.sz := Nat.mul_le_mul_right _ (by omega)
    omega
  obtain ⟨cc, ee, hl⟩ := hk.live htpos
  have hcs := hl.size
  have hm1 : (n + xs.length) * ob.sz ≤ (0 + cap) * ob.sz := Nat.mul_le_mul_right _ (by omega)
  rw [Nat.add_mul] at hm1
  have hadd : ∀ j u, news[j]? = some u → w.cell? ((⟨b, off, none⟩ : Addr).add j) = some u := fun j v hv => by rw [add_off]; exact hnews j v hv
  have hr := run_append_room' (P := P) (ty := ty) ht hi (E.β o) n cap cc hl.blk ⟨b, off, none⟩ xs.length c news (by rw [hnl, hisz]) hadd hn1 hroom (by rw [hisz, hnl, hcs]; omega)
  rw [hisz] at hr
  have hcget : ∀ k, (cc.toList.take (n * ob.sz) ++ news ++ cc.toList.drop (n * ob.sz + news.length)).toArray[k]? = if n * ob.sz ≤ k ∧ k < n * ob.sz + news.length then news[k - n * ob.sz]? else cc[k]? := by
    intro k
    have := mid_get cc.toList news (n * ob.sz) (by have := Array.length_toList (xs := cc); omega) k
    simpa using this
  have hcz : (cc.toList.take (n * ob.sz) ++ news ++ cc.toList.drop (n * ob.sz + news.length)).toArray.size = cc.size := by
    simp only [List.size_toArray, List.length_append, List.length_take, List.length_drop, Array.length_toList]; omega
  generalize (cc.toList.take (n * ob.sz) ++ news ++ cc.toList.drop (n * ob.sz + news.length)).toArray = c' at hr hcget hcz
  have hrows2 : ∀ r ∈ ob.els ++ xs, r.length = ob.sz := by
    intro r hr
    rcases List.mem_append.1 hr with h | h
    · exact hk.rows r h
    · exact hrows r h
  have hrelA : ∀ {R : Value → SV → Prop}, (∀ (k : Nat) (v : Value) (x : SV), cc[k]? = some v → ob.els.flatten[k]? = some x → R v x) → (∀ v x, Rep E.m v x → R v x) →
      ∀ (k : Nat) (v : Value) (x : SV), c'[k]? = some v → (ob.els ++ xs).flatten[k]? = some x → R v x := by
    intro R hR1 hR2 k v x hv hx
    rw [hcget k] at hv
    rw [List.flatten_append] at hx
    by_cases hk1 : k < n * ob.sz
    · rw [if_neg (by omega)] at hv
      rw [List.getElem?_append_left (by rw [hofl, ← hlen]; exact hk1)] at hx
      exact hR1 k v x hv hx
    · rw [List.getElem?_append_right (by rw [hofl, ← hlen]; omega)] at hx
      rw [hofl, ← hlen] at hx
      have hk2 : k - n * ob.sz < xs.flatten.length := by
        rcases Nat.lt_or_ge (k - n * ob.sz) xs.flatten.length with h | h
        · exact h
        · rw [List.getElem?_eq_none h] at hx; cases hx
      rw [if_pos (by omega)] at hv
      exact hR2 v x (hnr _ v x hv hx)
  have hfz0 := hk.frz
  obtain ⟨E', a1, a2, a3, a4, a5, a6, a7⟩ := hW.put (w' := w.setRow (E.β o) c') (ob' := { ob with els := ob.els ++ xs, frz := ob.els.length, gen := g + 1 })
    ho hl rfl rfl rfl (by simp) (fun k hk => setRow_other w (E.β o) k _ hk) (setRow_heap w (E.β o) cc _ ee _ hl.blk) hcz rfl (by simp [hgg]) (by simp) hfz0
    (fun j hj => by
      have : ob.frz * ob.sz ≤ n * ob.sz := Nat.mul_le_mul_right _ (by omega)
      rw [hcget j, if_neg (by omega)])
    hrows2 (by simp) (by simp only [List.length_append]; rw [← hlen, Nat.add_mul]; omega) (fun hbx => by rw [hb] at hbx; cases hbx) (by simp only [List.length_append]; omega)
    (fun k v hv => by
      rw [hcget k] at hv
      split at hv
      · exact hn1 v (List.mem_of_getElem? hv)
      · exact hl.one k v hv)
    (hrelA hl.rel (fun v x h => .rep v x h)) (fun _ => hrelA (hl.clo (.inl hb)) (fun v x h => h))
  refine ⟨_, E', ?_, ?_, a1, a2, by simp, a3⟩
  · rw [Nat.zero_mul]; exact hr
  · refine .osl _ _ _ _ _ _ _ { ob with els := ob.els ++ xs, frz := ob.els.length, gen := g + 1 } (by rw [a3]; simp) (Nat.le_refl _) ⟨rfl, hroom, fun _ => ⟨_, _, rfl⟩⟩ (fun _ => ⟨by simp only [List.length_append]; omega, ?_⟩)
    rw [a4, a5]
    exact .inl ⟨rfl, hfit2⟩

/-- The elder cells, and the run, where there is no room. -/
theorem app_grow_run {t ty e : TypeId} {i : TypeInfo} {zv : Value} {o n cap c b off : Nat} {ob : Ob} {B : Option Addr} {m : Nat} {news : List Value} (hW : W w0 own E w) (ho : E.H o = some ob) (ht : P.underlying t = some (.slice e)) (hi : P.info? e = some i) (hzv : i.zero = some zv)
    (hb : ob.box = false) (hisz : i.size = ob.sz) (hpos : 0 < ob.sz) (hlen : n = ob.els.length) (hlc : n ≤ cap) (hB : (B = some ⟨E.β o, 0 * ob.sz, none⟩ ∧ (0 + cap) * ob.sz ≤ E.t o) ∨ cap = 0) (hgrow : cap < n + m) (hbnd : n + m ≤ 140737488355328)
    (hby : (n + m) * i.bytes ≤ 140737488355328) (hnl : news.length = m * ob.sz) (hnews : ∀ j u, news[j]? = some u → w.cell? ⟨b, off + j, none⟩ = some u) :
    ∃ olds : List Value, olds.length = ob.els.length * ob.sz ∧ (∀ u ∈ olds, u.oneCell' = true) ∧ (∀ (j : Nat) (v : Value) (y : SV), olds[j]? = some v → ob.els.flatten[j]? = some y → Rep E.m v y) ∧
      (Builtin.append_ #[t, t] ty #[.slice B n cap, .slice (some ⟨b, off, none⟩) m c]).run P w = .ok (.slice (some ⟨w.heap.size, 0, none⟩) (n + m) (grownCap w (n + m) cap e))
        (w.drew.alloc (.cells (olds.toArray ++ news.toArray ++ Builtin.zeroCells zv.cells (grownCap w (n + m) cap e - (n + m))) e)) := by
  have hk := hW.obs o ob ho
  have hadd : ∀ j u, news[j]? = some u → w.cell? ((⟨b, off, none⟩ : Addr).add j) = some u := fun j v hv => by rw [add_off]; exact hnews j v hv
  rcases Nat.eq_zero_or_pos n with hn0 | hn0
  · subst hn0
    refine ⟨[], by rw [← hlen]; simp, by simp, by simp, ?_⟩
    cases B with
    | none =>
      have hc0 : cap = 0 := by
        rcases hB with ⟨h, _⟩ | h
        · cases h
        · exact h
      subst hc0
      have := run_append_nil (P := P) w t ty e i zv ht hi hzv ⟨b, off, none⟩ m c news (by rw [hnl, hisz]) hadd (by omega) (by omega) (by rw [Nat.zero_add] at hby; omega)
      simp only [Nat.zero_add, Array.empty_append]
      exact this
    | some b0 =>
      exact run_append_grow (P := P) w t ty e i zv ht hi hzv b0 0 cap [] (by simp) (by simp) ⟨b, off, none⟩ m c news (by rw [hnl, hisz]) hadd hgrow (by omega) (growslice_fits hgrow hby)
  · rcases hB with ⟨rfl, hfit2⟩ | h0
    rotate_left
    · omega
    have htpos : 0 < E.t o := by
      have : 1 * ob.sz ≤ (0 + cap) * ob.sz := Nat.mul_le_mul_right _ (by omega)
      omega
    obtain ⟨cc, ee, hl⟩ := hk.live htpos
    have hcs := hl.size
    have hf := hk.fit
    have hlenc : (cc.toList.take (ob.els.length * ob.sz)).length = ob.els.length * ob.sz := by simp; omega
    refine ⟨cc.toList.take (ob.els.length * ob.sz), hlenc, one_list hl.one (fun v hv => List.mem_of_mem_take hv), fun j v y hv hy => ?_, ?_⟩
    · rw [List.getElem?_take] at hv
      split at hv
      · exact hl.clo (.inl hb) j v y (by simpa using hv) hy
      · cases hv
    · refine run_append_grow (P := P) w t ty e i zv ht hi hzv ⟨E.β o, 0 * ob.sz, none⟩ n cap _ (by rw [hlenc, hlen, hisz]) (fun j v hv => ?_) ⟨b, off, none⟩ m c news (by rw [hnl, hisz]) hadd hgrow (by omega) (growslice_fits hgrow hby)
      rw [List.getElem?_take] at hv
      split at hv
      · rw [add_off, cell_of hl.blk, Nat.zero_mul, Nat.zero_add]; simpa using hv
      · cases hv

set_option maxHeartbeats 800000 in
/-- There is no room: a new row. -/
theorem app_grow {t ty e : TypeId} {i : TypeInfo} {zv : Value} {o g n cap c b off : Nat} {ob : Ob} {B : Option Addr} {xs : List (List SV)} {news : List Value} (hW : W w0 own E w) (ho : E.H o = some ob) (ht : P.underlying t = some (.slice e)) (hi : P.info? e = some i) (hzv : i.zero = some zv) (hgg : ob.gen = g)
    (hzsz : zv.cells.size = i.size) (hz1 : ∀ v ∈ zv.cells.toList, v.oneCell' = true)
    (hb : ob.box = false) (hisz : i.size = ob.sz) (hpos : 0 < ob.sz) (hlen : n = ob.els.length) (hlc : n ≤ cap) (hB : (B = some ⟨E.β o, 0 * ob.sz, none⟩ ∧ (0 + cap) * ob.sz ≤ E.t o) ∨ cap = 0) (hgrow : cap < n + xs.length) (hbnd : n + xs.length ≤ 140737488355328)
    (hby : (n + xs.length) * i.bytes ≤ 140737488355328) (hrows : ∀ r ∈ xs, r.length = ob.sz) (hnl : news.length = xs.length * ob.sz) (hnews : ∀ j u, news[j]? = some u → w.cell? ⟨b, off + j, none⟩ = some u) (hn1 : ∀ u ∈ news, u.oneCell' = true)
    (hnr : ∀ (j : Nat) (v : Value) (y : SV), news[j]? = some v → xs.flatten[j]? = some y → Rep E.m v y) :
    ∃ v w' E', (Builtin.append_ #[t, t] ty #[.slice B n cap, .slice (some ⟨b, off, none⟩) xs.length c]).run P w = .ok v w' ∧
      RelV E' v (.osl o (g + 1) 0 (n + xs.length)) ∧ Ext E E' ∧ W w0 own E' w' ∧ w.heap.size ≤ w'.heap.size ∧
      E'.H = (fun j => if j = o then some { ob with els := ob.els ++ xs, frz := ob.els.length, gen := g + 1 } else E.H j) := by
  have hk := hW.obs o ob ho
  obtain ⟨olds, hol, ho1, hor, hr⟩ := app_grow_run (P := P) (ty := ty) (c := c) hW ho ht hi hzv hb hisz hpos hlen hlc hB hgrow hbnd hby hnl hnews
  have hge := grownCap_ge w (n + xs.length) cap e
  obtain ⟨g1, g2⟩ := grown_row (E := E) (sz := ob.sz) (z := zv.cells) (olds := olds) (news := news) (oe := ob.els) (ne := xs) (q := grownCap w (n + xs.length) cap e - (n + xs.length)) hz1 (by omega) hpos hk.rows hrows hol hnl ho1 hn1 hor hnr
  have hsize : (olds.toArray ++ news.toArray ++ Builtin.zeroCells zv.cells (grownCap w (n + xs.length) cap e - (n + xs.length))).size = grownCap w (n + xs.length) cap e * ob.sz := by
    rw [Array.size_append, Array.size_append, size_zeroCells, hzsz, List.size_toArray, List.size_toArray, hol, hnl, hisz, ← Nat.add_mul, ← Nat.add_mul, ← hlen]
    congr 1
    omega
  generalize olds.toArray ++ news.toArray ++ Builtin.zeroCells zv.cells (grownCap w (n + xs.length) cap e - (n + xs.length)) = c' at hr g1 g2 hsize
  generalize grownCap w (n + xs.length) cap e = K at hr hge hsize
  have hrows2 : ∀ r ∈ ob.els ++ xs, r.length = ob.sz := by
    intro r hr
    rcases List.mem_append.1 hr with h | h
    · exact hk.rows r h
    · exact hrows r h
  obtain ⟨E', a1, a2, a3, a4, a5⟩ := hW.drew.bind o c' e { ob with els := ob.els ++ xs, frz := ob.els.length, gen := g + 1 }
    (fun ob0 h0 => by rw [ho] at h0; cases h0; exact ⟨by simp [hgg], rfl⟩) hrows2 (by simp) (by rw [hsize]; exact Nat.mul_le_mul_right _ (by simp only [List.length_append]; omega)) (fun hbx => by rw [hb] at hbx; cases hbx) (by simp only [List.length_append]; omega)
    g1 (fun k v x hv hx => .rep v x (g2 k v x hv hx)) (fun _ => g2)
  refine ⟨_, _, E', hr, ?_, a1, a2, by simp, a3⟩
  refine .osl _ _ _ _ _ _ _ { ob with els := ob.els ++ xs, frz := ob.els.length, gen := g + 1 } (by rw [a3]; simp) (Nat.le_refl _) ⟨rfl, hge, fun _ => ⟨_, _, rfl⟩⟩ (fun _ => ⟨by simp only [List.length_append]; omega, .inl ⟨by rw [a4]; simp, ?_⟩⟩)
  rw [a5, hsize, Nat.zero_add]
  exact Nat.le_refl _

set_option maxHeartbeats 800000 in
theorem app_sound {t ty e : TypeId} {z : SV} {sv xv : Value} {sx x : SV} {eff : Eff} (hW : W w0 own E w) (hu : ∀ o, U o → E.H o = s.hp[o]?) (hn : sx = .nils → U s.hp.length) (ht : P.underlying t = some (.slice e)) (hz : zeroT P e = some z)
    (hsz : (cellsOf z).length = P.cellsOf e) (hpos : 0 < P.cellsOf e) (he : absApp s.hp (P.cellsOf e) (P.bytesOf e) sx x = some eff) (hob : eff.ob) (hs : RelV E sv sx) (hx : RelV E xv x) (hi1 : ∀ o ∈ idsC sx, U o) (hi2 : ∀ o ∈ idsC x, U o) :
    ∃ v w' E', (Builtin.append_ #[t, t] ty #[sv, xv]).run P w = .ok v w' ∧ RelV E' v eff.val ∧ Step U w0 own E E' w' eff.hp ∧ w.heap.size ≤ w'.heap.size ∧ eff.as := by
  obtain ⟨i, zv, hi, hzv, hofz, hrep⟩ := zero_rel (m := E.m) hz
  have hci := cellsOf_info hi
  have hbi : P.bytesOf e = i.bytes := by simp [Program.bytesOf, hi]
  obtain ⟨zs, y1, y2, y3, y4, y5⟩ := cells_rel (.rep _ _ hrep : RelV E zv z) (rep_const (m := E.m) hofz).2.2
  have hzsz : zv.cells.size = i.size := by rw [y1]; simp; omega
  have hz1 : ∀ v ∈ zv.cells.toList, v.oneCell' = true := by rw [y1]; simpa using y3
  simp only [absApp] at he
  split at he
  rotate_left
  · cases he
  rename_i xs hxs
  obtain ⟨A, c, rfl, hrows, hsrc⟩ := els_read (s := s) hW hu hx hi2 hxs
  cases sx with
  | nils =>
    simp only [Option.some.injEq] at he
    subst he
    obtain ⟨hne, hby, hbnd⟩ := hob
    cases hs.closed_rep rfl with
    | nils =>
    rcases hsrc with rfl | ⟨b, off, news, rfl, hnl, hnews, hn1, hnr⟩
    · simp at hne
    have hr := run_append_nil (P := P) w t ty e i zv ht hi hzv ⟨b, off, none⟩ xs.length c news (by rw [hnl, hci]) (fun j v hv => by rw [add_off]; exact hnews j v hv) (by omega) (by omega) (by rw [← hbi]; omega)
    have hge := grownCap_ge w xs.length 0 e
    obtain ⟨g1, g2⟩ := grown_row (E := E) (sz := P.cellsOf e) (z := zv.cells) (olds := []) (news := news) (oe := []) (ne := xs) (q := grownCap w xs.length 0 e - xs.length) hz1 (by omega) hpos (by simp) hrows (by simp) hnl (by simp) hn1 (by simp) hnr
    simp only [Array.empty_append, List.nil_append] at g1 g2
    have hsize : (news.toArray ++ Builtin.zeroCells zv.cells (grownCap w xs.length 0 e - xs.length)).size = grownCap w xs.length 0 e * P.cellsOf e := by
      rw [Array.size_append, size_zeroCells, hzsz, List.size_toArray, hnl, hci, ← Nat.add_mul]
      congr 1
      omega
    generalize news.toArray ++ Builtin.zeroCells zv.cells (grownCap w xs.length 0 e - xs.length) = c' at hr g1 g2 hsize
    obtain ⟨E', a1, a2, a3, a4⟩ := step_new (s := s) hW.drew hu (hn rfl) c' e { box := false, sz := P.cellsOf e, els := xs, frz := 0, gen := 0, cl := true }
      hrows (Nat.zero_le _) (by rw [hsize]; exact Nat.mul_le_mul_right _ hge) (by simp) hbnd g1 (fun k v x hv hx => .rep v x (g2 k v x hv hx)) (fun _ => g2)
    refine ⟨_, _, E', hr, ?_, a1, by simp, trivial⟩
    refine .osl _ _ _ _ _ _ _ _ a2 (Nat.le_refl _) ⟨rfl, hge, fun _ => ⟨_, _, rfl⟩⟩ (fun _ => ⟨by simp, .inl ⟨by simp [a3], ?_⟩⟩)
    rw [a4, hsize, Nat.zero_add]
    exact Nat.le_refl _
  | osl o g off len =>
    simp only at he
    have hU := hi1 o (by simp [idsC])
    cases hs with
    | rep _ _ hr => cases hr
    | osl _ _ _ _ B n cap ob ho hg hnc hcur0 =>
    have hcur := fun (h : ob.gen = g) => And.intro hnc.1 (And.intro hnc.2.1 (hcur0 h))
    have hho : s.hp[o]? = some ob := by rw [← hu o hU]; exact ho
    rw [hho] at he
    simp only at he
    split at he
    rotate_left
    · cases he
    rename_i hcond
    obtain ⟨hb, hgg, hosz, rfl⟩ := hcond
    simp only [Option.some.injEq] at he
    subst he
    obtain ⟨hlen, hby, hbnd⟩ := hob
    obtain ⟨rfl, hlc, hfit, hB⟩ := hcur hgg
    have idle : ∀ A' : Option Addr, xs = [] → ∃ v w' E', (Builtin.append_ #[t, t] ty #[.slice B n cap, .slice A' xs.length c]).run P w = .ok v w' ∧ RelV E' v (.osl o (g + 1) 0 (n + xs.length)) ∧
        Step U w0 own E E' w' (s.hp.set o { ob with els := ob.els ++ xs, frz := ob.els.length, gen := g + 1 }) ∧ w.heap.size ≤ w'.heap.size ∧ True := by
      intro A' h0
      subst h0
      obtain ⟨E', a1, a2, a3, a4, a5⟩ := app_idle (P := P) (ty := ty) (A := A') (c := c) hW ho ht hi hgg hlc hfit hB
      simp only [List.length_nil, Nat.add_zero, List.append_nil]
      exact ⟨_, _, E', a1, a2, app_step (s := s) hu hU hho a3 a4 a5, Nat.le_refl _, trivial⟩
    rcases hsrc with h0 | ⟨b, off, news, rfl, hnl, hnews, hn1, hnr⟩
    · exact idle A h0
    · rcases Nat.eq_zero_or_pos xs.length with hx0 | hxpos
      · exact idle _ (List.eq_nil_of_length_eq_zero hx0)
      · by_cases hroom : n + xs.length ≤ cap
        · have hcap : 0 < cap := by omega
          rcases hB with ⟨rfl, hfit2⟩ | h0
          rotate_left
          · omega
          obtain ⟨w', E', a1, a2, a3, a4, a5, a6⟩ := app_room (P := P) (ty := ty) (c := c) hW ho ht hi hgg hb (by omega) (by omega) hlen hfit2 hroom hcap hbnd (by rw [hosz]; exact hrows) (by rw [hosz]; exact hnl) hnews hn1 hnr
          exact ⟨_, w', E', a1, a2, app_step (s := s) hu hU hho a3 a4 a6, a5, trivial⟩
        · obtain ⟨v, w', E', a1, a2, a3, a4, a5, a6⟩ := app_grow (P := P) (ty := ty) (c := c) hW ho ht hi hzv hgg hzsz hz1 hb (by omega) (by omega) hlen hlc hB (by omega) hbnd (by rw [← hbi]; exact hby) (by rw [hosz]; exact hrows) (by rw [hosz]; exact hnl) hnews hn1 hnr
          exact ⟨v, w', E', a1, a2, app_step (s := s) hu hU hho a3 a4 a6, a5, trivial⟩
  | _ => simp at he
end
end Go.Proofs.Ytadmdmhocglkfaa.Abs
