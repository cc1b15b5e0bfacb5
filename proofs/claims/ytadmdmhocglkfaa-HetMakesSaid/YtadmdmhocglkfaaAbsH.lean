/- EVERY OPERATION THAT IS NO CALL does in the model what the abstract one says. -/
import Derived.Test.YtadmdmhocglkfaaAbsG
set_option linter.unusedSimpArgs false
set_option linter.unusedVariables false
namespace Go.Proofs.Ytadmdmhocglkfaa.Abs
open Go Go.RowKit

section
variable {P : Program} {U : Nat → Prop} {w0 : World} {own : Nat → Prop} {E : Env} {w : World} {s : St} {a : Act}

theorem sem_v {x : Sem Value} {v : Value} {w' : World} (h : x.run P w = .ok v w') : (do pure (Next.value (← x)) : Sem Next).run P w = .ok (.value v) w' := by simp [h]

theorem val_eff {o : Option SV} {eff : Eff} (h : s.val o = some eff) : ∃ v, o = some v ∧ eff.val = v ∧ eff.hp = s.hp ∧ eff.as := by
  cases o with
  | none => simp [St.val] at h
  | some v => simp only [St.val, Option.some.injEq] at h; subst h; exact ⟨v, rfl, rfl, rfl, trivial⟩

theorem equalIn_bool {t : TypeId} {d : Nat} {b c : Bool} (h : P.underlying t = some .bool) : (Op.equalIn (d + 1) t (.bool b) (.bool c)).run P w = .ok (b == c) w := by
  simp [Op.equalIn, run_underlying h]
theorem equalIn_ptr {t e : TypeId} {d : Nat} {p : Option Addr} (h : P.underlying t = some (.pointer e)) : (Op.equalIn (d + 1) t (.pointer p) (.pointer none)).run P w = .ok p.isNone w := by
  cases p <;> simp [Op.equalIn, run_underlying h]

theorem eq_sound {op : BinOp} {t : TypeId} {u v : Value} {b : Bool} {r : SV} (h : eqB op b = some r) (he : (Op.equal t u v).run P w = .ok b w) (hn : ∀ k n, u ≠ .int k n) (hf : ∀ k n, u ≠ .float k n) (hs : ∀ b, u ≠ .string b) (hc : ∀ k m n, u ≠ .complex k m n) (hg : ∀ x y, eqGuard op t x y u v = pure ())
    (x y : Operand) : ∃ z, (do eqGuard op t x y u v; binOp op t u v : Sem Value).run P w = .ok z w ∧ RelV E z r := by
  rw [hg x y]
  cases op <;> simp only [eqB, Option.some.injEq] at h <;> first | (cases h; done) | skip
  · subst h
    have hb : binOp .eql t u v = (do pure (.bool (← Op.equal t u v))) := by
      cases u <;> first | (exact absurd rfl (hn _ _)) | (exact absurd rfl (hf _ _)) | (exact absurd rfl (hs _)) | (exact absurd rfl (hc _ _ _)) | (cases v <;> rfl)
    exact ⟨.bool b, by simp [hb, he], .rep _ _ (.bool _)⟩
  · subst h
    have hb : binOp .neq t u v = (do pure (.bool (!(← Op.equal t u v)))) := by
      cases u <;> first | (exact absurd rfl (hn _ _)) | (exact absurd rfl (hf _ _)) | (exact absurd rfl (hs _)) | (exact absurd rfl (hc _ _ _)) | (cases v <;> rfl)
    exact ⟨.bool (!b), by simp [hb, he], .rep _ _ (.bool _)⟩

theorem bin_sound {op : BinOp} {t : TypeId} {kd : Nat} {x y : Operand} {u v : Value} {sx sy r : SV} (hu : RelV E u sx) (hv : RelV E v sy) (h : evBin kd op sx sy = some r)
    (ht : (kd = 0 ∧ ∃ k, P.underlying t = some (.int k)) ∨ (kd = 1 ∧ P.underlying t = some .bool) ∨ (kd = 2 ∧ ∃ e, P.underlying t = some (.pointer e)) ∨ (kd = 3 ∧ ∃ k, P.underlying t = some (.float k))) :
    ∃ z, (do eqGuard op t x y u v; binOp op t u v : Sem Value).run P w = .ok z w ∧ RelV E z r := by
  have hptr : ∀ p : Option Addr, u = .pointer p → sy = .nilp → (if kd = 2 then eqB op p.isNone else none) = some r → ∃ z, (do eqGuard op t x y u v; binOp op t u v : Sem Value).run P w = .ok z w ∧ RelV E z r := by
    intro p hp hs hk
    subst hp; subst hs
    split at hk
    rotate_left
    · cases hk
    rename_i hk2
    rcases ht with ⟨h0, _⟩ | ⟨h0, _⟩ | ⟨_, e, hte⟩ | ⟨h0, _⟩
    · omega
    · omega
    rotate_left
    · omega
    · have := nilp_of hv
      subst this
      refine eq_sound hk ?_ (by simp) (by simp) (by simp) (by simp) (fun x y => eqGuard_at_pointer _ _ _ _ _ _) x y
      exact equalIn_ptr (d := 9999) hte
  cases sx with
  | int k n =>
    have := int_of hu
    subst this
    cases sy with
    | int k' m =>
      have := int_of hv
      subst this
      simp only [evBin] at h
      split at h
      rotate_left
      · cases h
      rename_i hk
      obtain ⟨_, rfl⟩ := hk
      cases op <;> simp only [intBin, Option.some.injEq] at h <;> first | (cases h; done) | skip
      all_goals subst h
      all_goals first
        | (refine ⟨.int k _, ?_, .rep _ _ (.int _ _)⟩; simp [eqGuard_at_int, binOp, Op.intArith]; done)
        | (refine ⟨.bool _, ?_, .rep _ _ (.bool _)⟩; simp [eqGuard_at_int, binOp, Op.intCmp]; done)
    | _ => simp [evBin] at h
  | bool b =>
    have := bool_of hu
    subst this
    cases sy with
    | bool c =>
      have := bool_of hv
      subst this
      simp only [evBin] at h
      split at h
      rotate_left
      · cases h
      rename_i hk
      rcases ht with ⟨h0, _⟩ | ⟨_, hte⟩ | ⟨h0, _⟩ | ⟨h0, _⟩
      · omega
      rotate_left
      · omega
      · omega
      · refine eq_sound h ?_ (by simp) (by simp) (by simp) (by simp) (fun x y => eqGuard_at_bool _ _ _ _ _ _) x y
        exact equalIn_bool (d := 9999) hte
    | _ => simp [evBin] at h
  | float k b =>
    have := float_of hu
    subst this
    cases sy with
    | float k' c =>
      have := float_of hv
      subst this
      simp only [evBin] at h
      split at h
      rotate_left
      · cases h
      rename_i hk
      obtain ⟨_, rfl⟩ := hk
      cases op <;> simp only [fltBin, Option.some.injEq] at h <;> first | (cases h; done) | skip
      all_goals subst h
      all_goals
        refine ⟨.bool _, ?_, .rep _ _ (.bool _)⟩
        simp [eqGuard_at_float, binOp, Op.floatCmp]
    | _ => simp [evBin] at h
  | ref o g e c =>
    cases sy with
    | nilp =>
      cases hu with
      | rep _ _ hr => cases hr
      | ref _ _ _ _ b j => exact hptr _ rfl rfl (by simpa [evBin] using h)
    | _ => simp [evBin] at h
  | dref z l c =>
    cases sy with
    | nilp =>
      cases hu.closed_rep rfl with
      | dref _ _ _ b off vs => exact hptr _ rfl rfl (by simpa [evBin] using h)
    | _ => simp [evBin] at h
  | nilp =>
    cases sy with
    | nilp => exact hptr _ (nilp_of hu) rfl (by simpa [evBin] using h)
    | _ => simp [evBin] at h
  | _ => simp [evBin] at h

theorem agg_of {u : Value} {b : Bool} {l : List SV} (h : RelV E u (.agg b l)) : ∃ vs : List Value, u = .agg vs.toArray ∧ (∀ v ∈ vs, v.oneCell' = true) ∧ vs.length = l.length ∧
    (∀ (j : Nat) (v : Value) (x : SV), vs[j]? = some v → l[j]? = some x → RelV E v x) ∧ (b = true → ∀ (j : Nat) (v : Value) (x : SV), vs[j]? = some v → l[j]? = some x → Rep E.m v x) := by
  cases h with
  | rep _ _ hr =>
    cases hr with
    | agg vs _ h0 h1 h2 => exact ⟨vs, rfl, h0, h1, fun j v x hv hx => .rep _ _ (h2 j v x hv hx), fun _ => h2⟩
  | agg vs _ h0 h1 h2 => exact ⟨vs, rfl, h0, h1, h2, fun hb => by cases hb⟩

theorem field_sound {t : TypeId} {i : Nat} {f : Field} {ag b : Bool} {u : Value} {l : List SV} (hf : fieldT P t i = some f) (hag : isAggT P f.type = some ag) (h1 : ag = true ∨ P.cellsOf f.type = 1) (hfit : f.offset + P.cellsOf f.type ≤ l.length) (hu : RelV E u (.agg b l)) :
    ∃ v, (Instr.field t u i).run P w = .ok v w ∧ RelV E v (cut b (l.length + 1) ag (P.cellsOf f.type) f.offset l) := by
  obtain ⟨vs, rfl, g1, g2, g3, g4⟩ := agg_of hu
  have hfs : ∃ fs, P.underlying t = some (.struct fs) ∧ fs[i]? = some f := by
    unfold fieldT at hf
    split at hf
    · rename_i fs hu'; exact ⟨fs, hu', hf⟩
    · cases hf
  obtain ⟨fs, hfu, hfi⟩ := hfs
  obtain ⟨inf, hinf⟩ := info_agg hag
  have hsz := run_sizeOf (P := P) w hinf
  unfold cut
  cases ag with
  | true =>
    refine ⟨.agg ((vs.drop f.offset).take (P.cellsOf f.type)).toArray, ?_, ?_⟩
    · simp [Instr.field, run_underlying hfu, hfi, asAgg, part, run_isAgg_of hag, hsz]
    · simp only [if_true]
      rw [if_neg (by omega)]
      have hsub : ∀ (j : Nat) (v : Value), ((vs.drop f.offset).take (P.cellsOf f.type))[j]? = some v → vs[f.offset + j]? = some v := by
        intro j v hv
        rw [List.getElem?_take] at hv
        split at hv
        · exact getElem?_drop_some hv
        · cases hv
      have hsub2 : ∀ (j : Nat) (v : SV), ((l.drop f.offset).take (P.cellsOf f.type))[j]? = some v → l[f.offset + j]? = some v := by
        intro j v hv
        rw [List.getElem?_take] at hv
        split at hv
        · exact getElem?_drop_some hv
        · cases hv
      cases b with
      | true => exact .rep _ _ (.agg _ _ (fun v hv => g1 v (List.mem_of_mem_drop (List.mem_of_mem_take hv))) (by simp; omega) (fun j v x hv hx => g4 rfl _ v x (hsub j v hv) (hsub2 j x hx)))
      | false => exact .agg _ _ (fun v hv => g1 v (List.mem_of_mem_drop (List.mem_of_mem_take hv))) (by simp; omega) (fun j v x hv hx => g3 _ v x (hsub j v hv) (hsub2 j x hx))
  | false =>
    have hn : P.cellsOf f.type = 1 := by simpa using h1
    have hlt : f.offset < vs.length := by omega
    refine ⟨vs[f.offset], ?_, ?_⟩
    · simp [Instr.field, run_underlying hfu, hfi, asAgg, part, run_isAgg_of hag, hlt]
    · simp only [Bool.false_eq_true, if_false]
      exact g3 f.offset _ _ (List.getElem?_eq_getElem hlt) (by rw [List.getD, List.getElem?_eq_getElem (by omega)]; rfl)

theorem iad_sound {t e : TypeId} {xv iv : Value} {x i r : SV} {p : Prop} (hu : ∀ o, U o → E.H o = s.hp[o]?) (ht : P.underlying t = some (.slice e)) (hpos : 0 < P.cellsOf e) (h : absIad s.hp (P.cellsOf e) x i = some (p, r)) (hp : p) (hx : RelV E xv x) (hi : RelV E iv i) (hids : ∀ o ∈ idsC x, U o) :
    ∃ v, (Instr.indexAt t xv iv).run P w = .ok v w ∧ RelV E v r := by
  have hinf : ∃ inf, P.info? e = some inf := by
    cases hq : P.info? e with
    | none => simp [Program.cellsOf, hq] at hpos
    | some inf => exact ⟨inf, rfl⟩
  obtain ⟨inf, hinf⟩ := hinf
  have hsz := run_sizeOf (P := P) w hinf
  have hrun : ∀ (k : IntKind) (n : Int) (b j len cap : Nat), 0 ≤ n → n < len → (Instr.indexAt t (.slice (some ⟨b, j, none⟩) len cap) (.int k n)).run P w = .ok (.pointer (some ⟨b, j + n.toNat * P.cellsOf e, none⟩)) w := by
    intro k n b j len cap h0 h1
    simp [Instr.indexAt, asIntOf, run_underlying ht, h0, h1, hsz, add_off]
  cases i with
  | int k n =>
    have := int_of hi
    subst this
    cases x with
    | osl o g off len =>
      have hU := hids o (by simp [idsC])
      cases hx with
      | rep _ _ hr => cases hr
      | osl _ _ _ _ A m cap ob ho hg hnl hcur =>
        simp only [absIad] at h
        rw [← hu o hU, ho] at h
        simp only at h
        split at h
        rotate_left
        · cases h
        rename_i hse
        cases h
        obtain ⟨h0, h1⟩ := hp
        obtain ⟨rfl, hlc, hA⟩ := hnl
        obtain ⟨b, j, rfl⟩ := hA (by omega)
        refine ⟨_, hrun k n b j m cap h0 h1, .ref _ _ _ _ _ _ ob ho hg (fun hgg => ?_)⟩
        obtain ⟨hfit, hA2⟩ := hcur hgg
        rcases hA2 with ⟨hA2, _⟩ | h0
        · simp only [Option.some.injEq, Addr.mk.injEq] at hA2
          obtain ⟨rfl, rfl, _⟩ := hA2
          exact ⟨rfl, by rw [Nat.add_mul, hse]; omega⟩
        · omega
    | dsl z l =>
      have hr := hx.closed_rep rfl
      simp only [absIad] at h
      split at h
      rotate_left
      · cases h
      rename_i hse
      cases h
      obtain ⟨h0, h1⟩ := hp
      cases hr with
      | dsl0 => simp at h1; omega
      | dsl _ _ cap b off vs g0 g1 g2 g3 g4 g5 g6 =>
        refine ⟨_, hrun k n b off l.length cap h0 h1, ?_⟩
        have hlt : n.toNat < l.length := by omega
        have hel : l[n.toNat]? = some (l.getD n.toNat []) := by simp [List.getD, List.getElem?_eq_getElem hlt]
        have hrl := g3 _ (List.mem_of_getElem? hel)
        have hfl := flat_len g3
        have h2 : (n.toNat + 1) * z ≤ l.length * z := Nat.mul_le_mul_right _ hlt
        rw [Nat.succ_mul] at h2
        subst hse
        have hsub : ∀ (j : Nat) (v : Value), ((vs.drop (n.toNat * P.cellsOf e)).take (P.cellsOf e))[j]? = some v → j < P.cellsOf e ∧ vs[n.toNat * P.cellsOf e + j]? = some v := by
          intro j v hv
          rw [List.getElem?_take] at hv
          split at hv
          · exact ⟨by omega, getElem?_drop_some hv⟩
          · cases hv
        have := Rep.dref (m := E.m) (P.cellsOf e) (l.getD n.toNat []) 0 b (off + n.toNat * P.cellsOf e) ((vs.drop (n.toNat * P.cellsOf e)).take (P.cellsOf e)) (fun v hv => g0 v (List.mem_of_mem_drop (List.mem_of_mem_take hv))) (by simp; omega) hrl
          (fun j v hv => by have := g5 _ v (hsub j v hv).2; rw [Nat.add_assoc]; exact this)
          (fun j v x hv hx => by
            obtain ⟨hj, hv'⟩ := hsub j v hv
            refine g6 _ v x hv' ?_
            rw [flat_get g3 _ _ hj, hel]
            exact hx)
        exact .rep _ _ this
    | _ => simp [absIad] at h
  | _ => cases x <;> simp [absIad] at h

theorem len_sound {st : Bool} {t : TypeId} {ts : Array TypeId} {ty : TypeId} {xv : Value} {x : SV} {eff : Eff} (ht0 : ts.getD 0 0 = t) (hts : 0 < ts.size) (ht : st = false ∧ (∃ e, P.underlying t = some (.slice e)) ∨ st = true ∧ P.underlying t = some .string) (h : absLen s.hp st x = some eff) (hx : RelV E xv x) :
    ∃ v, (Builtin.len_ ts ty #[xv]).run P w = .ok v w ∧ RelV E v eff.val ∧ eff.hp = s.hp ∧ eff.as := by
  have ht1 : ts[0]? = some t := by
    rw [Array.getElem?_eq_getElem hts]
    simp [hts] at ht0
    rw [ht0]
  rcases ht with ⟨rfl, e, he⟩ | ⟨rfl, he⟩
  · have hsl : ∀ A n cap, xv = .slice A n cap → (Builtin.len_ ts ty #[xv]).run P w = .ok (.int .i64 n) w := by
      intro A n cap hxv
      subst hxv
      simp [Builtin.len_, ht1, run_underlying he, goInt]
    cases x with
    | nils =>
      simp only [absLen, Option.some.injEq] at h
      subst h
      have := nils_of hx
      exact ⟨_, hsl _ _ _ this, .rep _ _ (.int _ _), rfl, trivial⟩
    | dsl z l =>
      simp only [absLen, Option.some.injEq] at h
      subst h
      have hr := hx.closed_rep rfl
      have hshape : ∃ A cap, xv = .slice A l.length cap ∧ l.length ≤ 140737488355328 := by
        cases hr with
        | dsl0 _ A cap => exact ⟨A, cap, rfl, by simp⟩
        | dsl _ _ cap b off vs g0 g1 g2 => exact ⟨_, cap, rfl, g2⟩
      obtain ⟨A, cap, h1, h2⟩ := hshape
      exact ⟨_, hsl _ _ _ h1, .rep _ _ (.int _ _), rfl, h2⟩
    | osl o g off len =>
      simp only [absLen, Option.some.injEq] at h
      subst h
      cases hx with
      | rep _ _ hr => cases hr
      | osl _ _ _ _ A m cap ob ho hg hnl hcur =>
        obtain ⟨rfl, _, _⟩ := hnl
        exact ⟨_, hsl _ _ _ rfl, .rep _ _ (.int _ _), rfl, trivial⟩
    | _ => simp [absLen] at h
  · cases x with
    | str b =>
      simp only [absLen, Option.some.injEq] at h
      subst h
      have := str_of hx
      subst this
      exact ⟨.int .i64 b.size, by simp [Builtin.len_, ht1, run_underlying he, goInt], .rep _ _ (.int _ _), rfl, trivial⟩
    | _ => simp [absLen] at h

/-- EVERY OPERATION THAT IS NO CALL. -/
theorem op_sound {o : Oper} {aop : AOp} {eff : Eff} (tr : trOp P o.op = some aop) (he : absOp s aop = some eff) (hob : eff.ob) (hW : W w0 own E w) (hu : ∀ i, U i → E.H i = s.hp[i]?) (hn : creates s aop = true → U s.hp.length) (hids : ∀ i ∈ usesO s aop, U i)
    (hx : ∀ x ∈ o.op.operands, ∀ ax, trX x = some ax → RelV E (a.eval x) (s.get ax)) : OpRes P (execOp a.eval o) U w0 own E w eff := by
  obtain ⟨dst, op, ty, pos, after, guard⟩ := o
  simp only at tr hx
  cases op with
  | move x =>
    simp only [trOp, Option.map_eq_some_iff] at tr
    obtain ⟨ax, hax, rfl⟩ := tr
    simp only [absOp] at he
    obtain ⟨v, hv, e1, e2, e3⟩ := val_eff he
    cases hv
    exact OpRes.pure_ hW hu (by simp [execOp]; rfl) (by rw [e1]; exact hx x (by simp [Op.operands]) ax hax) e2 e3
  | assign x =>
    simp only [trOp, Option.map_eq_some_iff] at tr
    obtain ⟨ax, hax, rfl⟩ := tr
    simp only [absOp] at he
    obtain ⟨v, hv, e1, e2, e3⟩ := val_eff he
    cases hv
    exact OpRes.pure_ hW hu (by simp [execOp]; rfl) (by rw [e1]; exact hx x (by simp [Op.operands]) ax hax) e2 e3
  | pick c x y =>
    simp only [trOp, Option.bind_eq_bind, Option.bind_eq_some_iff, Option.pure_def, Option.some.injEq] at tr
    obtain ⟨ac, hac, ax, hax, ay, hay, rfl⟩ := tr
    simp only [absOp] at he
    split at he
    rotate_left
    · cases he
    rename_i t hc
    obtain ⟨v, hv, e1, e2, e3⟩ := val_eff he
    cases hv
    have hcv := hx c (by simp [Op.operands]) ac hac
    rw [hc] at hcv
    have := bool_of hcv
    refine OpRes.pure_ (v := if t then a.eval x else a.eval y) hW hu (by cases t <;> simp [execOp, this, asBool]) ?_ e2 e3
    rw [e1]
    cases t
    · exact hx y (by simp [Op.operands]) ay hay
    · exact hx x (by simp [Op.operands]) ax hax
  | alloc t =>
    simp only [trOp, Option.map_eq_some_iff] at tr
    obtain ⟨z, hz, rfl⟩ := tr
    obtain ⟨i, zv, hi, hzv, hofz, hrep⟩ := zero_rel (m := E.m) hz
    simp only [absOp, Option.some.injEq] at he
    subst he
    obtain ⟨E', b1, b2⟩ := box_sound (s := s) hW hu (hn rfl) t (.rep _ _ hrep) (rep_const (m := E.m) hofz).2.2
    rw [(rep_const (m := E.m) hofz).2.1] at b2
    refine ⟨_, _, E', .inl ?_, b1, b2, by simp, trivial⟩
    simp [execOp, Instr.alloc, zeroValue, typeInfo, hi, hzv, newVar, newRow]
  | box t x =>
    simp only [trOp, Option.map_eq_some_iff] at tr
    obtain ⟨ax, hax, rfl⟩ := tr
    simp only [absOp, Option.some.injEq] at he
    subst he
    obtain ⟨E', b1, b2⟩ := box_sound (s := s) hW hu (hn rfl) t (hx x (by simp [Op.operands]) ax hax) hob
    refine ⟨_, _, E', .inl ?_, b1, b2, by simp, trivial⟩
    simp [execOp, Instr.box, newVar, newRow]
  | build t parts =>
    simp only [trOp] at tr
    split at tr
    rotate_left
    · cases tr
    rename_i fs hfs
    simp only [Option.bind_eq_bind, Option.bind_eq_some_iff] at tr
    obtain ⟨z, hz, ps, hps, tr⟩ := tr
    split at tr
    rotate_left
    · cases tr
    rename_i hall
    cases tr
    simp only [Bool.and_eq_true, List.all_eq_true, decide_eq_true_eq] at hall
    obtain ⟨hinf, hbnds⟩ := hall
    simp only [absOp, Option.some.injEq] at he
    subst he
    obtain ⟨i, zv, hi, hzv, hofz, hrep⟩ := zero_rel (m := E.m) hz
    have hzc := (rep_const (m := E.m) hofz).2.1
    have hzok := (rep_const (m := E.m) hofz).2.2
    obtain ⟨places, p1, p2⟩ := places_of (P := P) (fs := fs) (by rw [List.all_eq_true]; exact hinf) w
    have hfld : ∀ (j : Nat) (f : Field), fieldT P t j = some f → fs[j]? = some f := fun j f hf => by simpa [fieldT, hfs] using hf
    obtain ⟨zs, y1, y2, y3, y4, y5⟩ := cells_rel (.rep _ _ hrep : RelV E zv z) hzok
    -- each part, its cells
    have hpart : ∀ q ∈ parts.toList, ∀ ax, trX q.2 = some ax → RelV E (a.eval q.2) (s.get ax) := fun q hq ax hax => hx q.2 (by
      simp only [Op.operands, List.mem_toArray, List.mem_map]
      exact ⟨q, hq, rfl⟩) ax hax
    have hokp : ∀ {l : List (Nat × Operand)} {ps : List (Nat × Nat × AX)}, trParts P t l = some ps → partsOk (ps.map fun p => (p.1, p.2.1, s.get p.2.2)) → ∀ q ∈ l, ∀ ax, trX q.2 = some ax → (s.get ax).ok = true ∧ ((ps.all fun p => (s.get p.2.2).closed) = true → (s.get ax).closed = true) := by
      intro l
      induction l with
      | nil => intro ps _ _ q hq; cases hq
      | cons q0 l ih =>
        obtain ⟨j, x⟩ := q0
        intro ps htr hok q hq ax hax
        simp only [trParts, Option.bind_eq_bind, Option.bind_eq_some_iff, Option.pure_def, Option.some.injEq] at htr
        obtain ⟨f, hf, ax0, hax0, ps', hps', rfl⟩ := htr
        simp only [List.map_cons, partsOk] at hok
        rcases List.mem_cons.1 hq with rfl | hq
        · rw [hax0] at hax
          cases hax
          exact ⟨hok.1, fun hc => by simp only [List.all_cons, Bool.and_eq_true] at hc; exact hc.1⟩
        · obtain ⟨g1, g2⟩ := ih hps' hok.2.2 q hq ax hax
          exact ⟨g1, fun hc => by simp only [List.all_cons, Bool.and_eq_true] at hc; exact g2 hc.2⟩
    have hrunB : ∀ cs', Instr.fill (places[·]?) zv.cells (parts.toList.map fun q => (q.1, a.eval q.2)) = some cs' → (execOp a.eval { dst := dst, op := .build t parts, type := ty, pos := pos, after := after, guard := guard }).run P w = .ok (.value (.agg cs')) w := by
      intro cs' hc
      have hpl : (parts.map fun (i, x) => (i, a.eval x)).toList = parts.toList.map fun q => (q.1, a.eval q.2) := by rw [Array.toList_map]
      simp only [execOp, Instr.build, Sem.run_bind, zeroValue, run_typeInfo w hi, Result.andThen_ok, hzv, Sem.run_pure, run_underlying hfs, p1, hpl, hc]
    by_cases hcl : (ps.all fun p => (s.get p.2.2).closed) = true
    · obtain ⟨cs', c1, c2, c3, c4⟩ := fill_sound (P := P) (s := s) (a := a) (t := t) p2 hfld (Rep E.m) parts.toList ps zv.cells (cellsOf z) hps (by rw [y1]; simpa using y2) (fun p hp => hbnds p hp) (fun k v x hv hx' => by rw [y1] at hv; exact y5 hzc k v x (by simpa using hv) hx')
        (by rw [y1]; simpa using y3) hob (fun q hq ax hax => by
          obtain ⟨vs, b1, b2, b3, b4, b5⟩ := cells_rel (hpart q hq ax hax) (hokp hps hob q hq ax hax).1
          exact ⟨vs, b1, b2, b3, b5 ((hokp hps hob q hq ax hax).2 hcl)⟩)
      refine OpRes.pure_ (v := .agg cs') hW hu (hrunB cs' c1) ?_ rfl trivial
      show RelV E (.agg cs') (.agg (ps.all fun p => (s.get p.2.2).closed) _)
      rw [hcl]
      have := Rep.agg (m := E.m) cs'.toList (fill (cellsOf z) (ps.map fun p => (p.1, p.2.1, s.get p.2.2))) c3 (by simpa using c2) (fun j v x hv hx' => c4 j v x (by simpa using hv) hx')
      exact .rep _ _ (by simpa using this)
    · obtain ⟨cs', c1, c2, c3, c4⟩ := fill_sound (P := P) (s := s) (a := a) (t := t) p2 hfld (RelV E) parts.toList ps zv.cells (cellsOf z) hps (by rw [y1]; simpa using y2) (fun p hp => hbnds p hp) (fun k v x hv hx' => by rw [y1] at hv; exact y4 k v x (by simpa using hv) hx')
        (by rw [y1]; simpa using y3) hob (fun q hq ax hax => by
          obtain ⟨vs, b1, b2, b3, b4, b5⟩ := cells_rel (hpart q hq ax hax) (hokp hps hob q hq ax hax).1
          exact ⟨vs, b1, b2, b3, b4⟩)
      refine OpRes.pure_ (v := .agg cs') hW hu (hrunB cs' c1) ?_ rfl trivial
      show RelV E (.agg cs') (.agg (ps.all fun p => (s.get p.2.2).closed) _)
      rw [show (ps.all fun p => (s.get p.2.2).closed) = false by simpa using hcl]
      have := RelV.agg (E := E) cs'.toList (fill (cellsOf z) (ps.map fun p => (p.1, p.2.1, s.get p.2.2))) c3 (by simpa using c2) (fun j v x hv hx' => c4 j v x (by simpa using hv) hx')
      simpa using this
  | buildSlice t len parts =>
    simp only [trOp, Option.bind_eq_bind, Option.bind_eq_some_iff] at tr
    obtain ⟨e, he0, xs, hxs, tr⟩ := tr
    split at tr
    rotate_left
    · cases tr
    rename_i hcond
    cases tr
    obtain ⟨c1, c2, c3, c4⟩ := hcond
    have hte : P.underlying t = some (.slice e) := by
      unfold elemT at he0
      split at he0
      · rename_i hu'; cases he0; exact hu'
      · cases he0
    obtain ⟨z, hz⟩ := Option.isSome_iff_exists.1 c4.1
    have hzl : (cellsOf z).length = P.cellsOf e := by
      have := c4.2
      simpa [hz] using this
    simp only [absOp] at he
    split at he
    rotate_left
    · cases he
    rename_i rows h hcr
    cases he
    obtain ⟨v, w', E', r1, r2, r3, r4⟩ := bslice_sound (P := P) (s := s) (a := a) hW hu (hn rfl) hte hz c2 hzl hxs c1 c3 hcr hob (fun q hq ax hax => hx q.2 (by
      simp only [Op.operands, List.mem_toArray, List.mem_map]
      exact ⟨q, hq, rfl⟩) ax hax) hids
    exact ⟨v, w', E', .inl (by simp [execOp, r1]), r2, r3, r4, trivial⟩
  | load t x =>
    simp only [trOp, Option.bind_eq_bind, Option.bind_eq_some_iff] at tr
    obtain ⟨ag, hag, ax, hax, tr⟩ := tr
    split at tr
    rotate_left
    · cases tr
    rename_i h1
    cases tr
    obtain ⟨u, r1, r2, r3, r4⟩ := load_sound hW hu hag h1 he hob (hx x (by simp [Op.operands]) ax hax) hids
    exact OpRes.pure_ hW hu (by simp [execOp, r1]) r2 r3 r4
  | store t x y =>
    simp only [trOp, Option.bind_eq_bind, Option.bind_eq_some_iff] at tr
    obtain ⟨ag, hag, ax, hax, ay, hay, tr⟩ := tr
    split at tr
    rotate_left
    · cases tr
    rename_i h1
    cases tr
    obtain ⟨w', E', r1, r2, r3, r4, r5⟩ := store_sound (s := s) hW hu hag h1.2 he hob (hx x (by simp [Op.operands]) ax hax) (hx y (by simp [Op.operands]) ay hay) (fun i hi => hids i (List.mem_append_left _ hi)) (fun i hi => hids i (List.mem_append_right _ hi))
    exact ⟨undef, w', E', .inr ⟨by simp [execOp, r1], rfl⟩, by rw [r4]; exact .undef, r2, r3, r5⟩
  | nilCheck x =>
    simp only [trOp, Option.map_eq_some_iff] at tr
    obtain ⟨ax, hax, rfl⟩ := tr
    have hv := hx x (by simp [Op.operands]) ax hax
    simp only [absOp] at he
    split at he
    · rename_i o g e c hc
      obtain ⟨v, hv', e1, e2, e3⟩ := val_eff he
      cases hv'
      rw [hc] at hv
      have hshape : ∃ b, a.eval x = .pointer (some b) := by
        have hv2 := hv
        generalize a.eval x = u at hv2
        cases hv2 with
        | rep _ _ hr => cases hr
        | ref _ _ _ _ b j => exact ⟨_, rfl⟩
      obtain ⟨b, hb⟩ := hshape
      exact OpRes.pure_ (v := a.eval x) hW hu (by simp [execOp, hb]) (by rw [e1]; exact hv) e2 e3
    · rename_i z l c hc
      obtain ⟨v, hv', e1, e2, e3⟩ := val_eff he
      cases hv'
      rw [hc] at hv
      have hshape : ∃ b, a.eval x = .pointer (some b) := by
        have := hv.closed_rep rfl
        generalize a.eval x = u at this
        cases this with
        | dref => exact ⟨_, rfl⟩
      obtain ⟨b, hb⟩ := hshape
      exact OpRes.pure_ (v := a.eval x) hW hu (by simp [execOp, hb]) (by rw [e1]; exact hv) e2 e3
    · cases he
  | binOp op t x y yt =>
    have key : ∀ kd ax ay, trX x = some ax → trX y = some ay → aop = .bin kd op ax ay → ((kd = 0 ∧ ∃ k, P.underlying t = some (.int k)) ∨ (kd = 1 ∧ P.underlying t = some .bool) ∨ (kd = 2 ∧ ∃ e, P.underlying t = some (.pointer e)) ∨ (kd = 3 ∧ ∃ k, P.underlying t = some (.float k))) →
        OpRes P (execOp a.eval { dst := dst, op := .binOp op t x y yt, type := ty, pos := pos, after := after, guard := guard }) U w0 own E w eff := by
      intro kd ax ay hax hay h1 h2
      subst h1
      simp only [absOp] at he
      obtain ⟨v, hv, e1, e2, e3⟩ := val_eff he
      obtain ⟨z, r1, r2⟩ := bin_sound (P := P) (w := w) (x := x) (y := y) (hx x (by simp [Op.operands]) ax hax) (hx y (by simp [Op.operands]) ay hay) hv h2
      refine OpRes.pure_ (v := z) hW hu ?_ (by rw [e1]; exact r2) e2 e3
      show (do pure (Next.value (← (do eqGuard op t x y (a.eval x) (a.eval y); binOp op t (a.eval x) (a.eval y) : Sem Value))) : Sem Next).run P w = _
      rw [Sem.run_bind, r1]
      rfl
    simp only [trOp] at tr
    split at tr
    · rename_i k hk
      simp only [Option.bind_eq_bind, Option.bind_eq_some_iff, Option.pure_def, Option.some.injEq] at tr
      obtain ⟨ax, hax, ay, hay, rfl⟩ := tr
      exact key 0 ax ay hax hay rfl (.inl ⟨rfl, k, hk⟩)
    · rename_i hk
      simp only [Option.bind_eq_bind, Option.bind_eq_some_iff, Option.pure_def, Option.some.injEq] at tr
      obtain ⟨ax, hax, ay, hay, rfl⟩ := tr
      exact key 1 ax ay hax hay rfl (.inr (.inl ⟨rfl, hk⟩))
    · rename_i k hk
      simp only [Option.bind_eq_bind, Option.bind_eq_some_iff, Option.pure_def, Option.some.injEq] at tr
      obtain ⟨ax, hax, ay, hay, rfl⟩ := tr
      exact key 3 ax ay hax hay rfl (.inr (.inr (.inr ⟨rfl, k, hk⟩)))
    · rename_i e hk
      simp only [Option.bind_eq_bind, Option.bind_eq_some_iff, Option.pure_def, Option.some.injEq] at tr
      obtain ⟨ax, hax, ay, hay, rfl⟩ := tr
      exact key 2 ax ay hax hay rfl (.inr (.inr (.inl ⟨rfl, e, hk⟩)))
    · cases tr
  | unOp op t x =>
    simp only [trOp, Option.map_eq_some_iff] at tr
    obtain ⟨ax, hax, rfl⟩ := tr
    have hv := hx x (by simp [Op.operands]) ax hax
    simp only [absOp] at he
    split at he
    · rename_i b hc
      obtain ⟨v, hv', e1, e2, e3⟩ := val_eff he
      cases hv'
      rw [hc] at hv
      have := bool_of hv
      exact OpRes.pure_ (v := .bool (!b)) hW hu (by simp [execOp, this, Op.unary]) (by rw [e1]; exact .rep _ _ (.bool _)) e2 e3
    · rename_i k n hc
      obtain ⟨v, hv', e1, e2, e3⟩ := val_eff he
      cases hv'
      rw [hc] at hv
      have := int_of hv
      exact OpRes.pure_ (v := .int k (k.wrap (0 - n))) hW hu (by simp [execOp, this, Op.unary, Op.intArith]) (by rw [e1]; exact .rep _ _ (.int _ _)) e2 e3
    · cases he
  | convert src dst' x =>
    simp only [trOp] at tr
    split at tr
    rotate_left
    · cases tr
    rename_i k1 k2 hs hd
    simp only [Option.map_eq_some_iff] at tr
    obtain ⟨ax, hax, rfl⟩ := tr
    have hv := hx x (by simp [Op.operands]) ax hax
    simp only [absOp] at he
    split at he
    rotate_left
    · cases he
    rename_i k n hc
    obtain ⟨v, hv', e1, e2, e3⟩ := val_eff he
    cases hv'
    rw [hc] at hv
    have := int_of hv
    exact OpRes.pure_ (v := .int k2 (k2.wrap n)) hW hu (by simp [execOp, this, convert, run_underlying hs, run_underlying hd, Conv.intToInt]) (by rw [e1]; exact .rep _ _ (.int _ _)) e2 e3
  | makeSlice t l c =>
    simp only [trOp, Option.bind_eq_bind, Option.bind_eq_some_iff] at tr
    obtain ⟨e, he0, z, hz, tr⟩ := tr
    split at tr
    rotate_left
    · cases tr
    rename_i hcond
    simp only [Option.bind_eq_some_iff, Option.pure_def, Option.some.injEq] at tr
    obtain ⟨al, hal, ac, hac, rfl⟩ := tr
    have hte : P.underlying t = some (.slice e) := by
      unfold elemT at he0
      split at he0
      · rename_i hu'; cases he0; exact hu'
      · cases he0
    have hvl := hx l (by simp [Op.operands]) al hal
    have hvc := hx c (by simp [Op.operands]) ac hac
    simp only [absOp] at he
    split at he
    rotate_left
    · cases he
    rename_i kl l' kc c' hl hc
    cases he
    rw [hl] at hvl
    rw [hc] at hvc
    obtain ⟨o1, o2, o3, o4⟩ := hob
    obtain ⟨v, w', E', r1, r2, r3, r4⟩ := mk_sound (P := P) (s := s) (kl := kl) (kc := kc) hW hu (hn rfl) hte hz hcond.1 hcond.2 o1 o2 o3 o4
    exact ⟨v, w', E', .inl (by simp [execOp, int_of hvl, int_of hvc, r1]), r2, r3, r4, trivial⟩
  | slice t x lo hi mx =>
    cases mx with
    | some m => simp [trOp] at tr
    | none =>
      simp only [trOp] at tr
      split at tr
      · rename_i e hk
        split at tr
        rotate_left
        · cases tr
        rename_i hinf
        simp only [Option.bind_eq_bind, Option.bind_eq_some_iff, Option.pure_def, Option.some.injEq] at tr
        obtain ⟨ax, hax, alo, hlo, ahi, hhi, rfl⟩ := tr
        simp only [absOp] at he
        obtain ⟨v, r1, r2, r3, r4⟩ := slc_sound (P := P) (w := w) (a := a) (E := E) hu (hx x (by simp [Op.operands]) ax hax) hlo hhi he hob
          (fun y hy ax hax => hx y (by subst hy; simp [Op.operands]) ax hax) (fun y hy ax hax => hx y (by subst hy; simp [Op.operands]) ax hax) hids (.inl ⟨e, hk, hinf.1, rfl, hinf.2⟩)
        exact OpRes.pure_ hW hu (by simp [execOp, r1]) r2 r3 r4
      · rename_i hk
        simp only [Option.bind_eq_bind, Option.bind_eq_some_iff, Option.pure_def, Option.some.injEq] at tr
        obtain ⟨ax, hax, alo, hlo, ahi, hhi, rfl⟩ := tr
        simp only [absOp] at he
        obtain ⟨v, r1, r2, r3, r4⟩ := slc_sound (P := P) (w := w) (a := a) (E := E) hu (hx x (by simp [Op.operands]) ax hax) hlo hhi he hob
          (fun y hy ax hax => hx y (by subst hy; simp [Op.operands]) ax hax) (fun y hy ax hax => hx y (by subst hy; simp [Op.operands]) ax hax) hids (.inr ⟨hk, rfl⟩)
        exact OpRes.pure_ hW hu (by simp [execOp, r1]) r2 r3 r4
      · cases tr
  | fieldAddr t x i =>
    simp only [trOp, Option.bind_eq_bind, Option.bind_eq_some_iff] at tr
    obtain ⟨f, hf, tr⟩ := tr
    split at tr
    · cases tr
    rename_i hz
    simp only [Option.bind_eq_some_iff, Option.pure_def, Option.some.injEq] at tr
    obtain ⟨ax, hax, rfl⟩ := tr
    have hv := hx x (by simp [Op.operands]) ax hax
    have hfs : ∃ fs, P.underlying t = some (.struct fs) ∧ fs[i]? = some f := by
      unfold fieldT at hf
      split at hf
      · rename_i fs hu'; exact ⟨fs, hu', hf⟩
      · cases hf
    obtain ⟨fs, hfu, hfi⟩ := hfs
    have hinf : ∃ inf, P.info? f.type = some inf := by
      cases hq : P.info? f.type with
      | none => simp [Program.cellsOf, hq] at hz
      | some inf => exact ⟨inf, rfl⟩
    obtain ⟨inf, hinf⟩ := hinf
    have hrun : ∀ b j, a.eval x = .pointer (some ⟨b, j, none⟩) → (execOp a.eval { dst := dst, op := .fieldAddr t x i, type := ty, pos := pos, after := after, guard := guard }).run P w = .ok (.value (.pointer (some ⟨b, j + f.offset, none⟩))) w := by
      intro b j hb
      simp [execOp, hb, Instr.fieldAt, run_underlying hfu, hfi, Instr.sureAddr, fieldPlace, run_sizeOf w hinf, hz, add_off]
    simp only [absOp] at he
    split at he
    · rename_i o g e c hc
      obtain ⟨v, hv', e1, e2, e3⟩ := val_eff he
      cases hv'
      rw [hc] at hv
      generalize hval : a.eval x = u at hv
      cases hv with
      | rep _ _ hr => cases hr
      | ref _ _ _ _ b j ob h1 h2 h3 =>
        refine OpRes.pure_ hW hu (hrun b j hval) ?_ e2 e3
        rw [e1]
        exact .ref _ _ _ _ _ _ ob h1 h2 (fun hg => ⟨(h3 hg).1, by have := (h3 hg).2; omega⟩)
    · rename_i z l c hc
      obtain ⟨v, hv', e1, e2, e3⟩ := val_eff he
      cases hv'
      rw [hc] at hv
      have hr := hv.closed_rep rfl
      generalize hval : a.eval x = u at hr
      cases hr with
      | dref _ _ _ b off vs g0 g1 g2 g3 g4 =>
        refine OpRes.pure_ hW hu (hrun b (off + c) hval) ?_ e2 e3
        rw [e1, Nat.add_assoc]
        exact .rep _ _ (.dref z l (c + f.offset) b off vs g0 g1 g2 g3 g4)
    · cases he
  | field t x i =>
    simp only [trOp, Option.bind_eq_bind, Option.bind_eq_some_iff] at tr
    obtain ⟨f, hf, ag, hag, tr⟩ := tr
    split at tr
    rotate_left
    · cases tr
    rename_i h1
    simp only [Option.bind_eq_some_iff, Option.pure_def, Option.some.injEq] at tr
    obtain ⟨ax, hax, rfl⟩ := tr
    have hv := hx x (by simp [Op.operands]) ax hax
    simp only [absOp] at he
    split at he
    rotate_left
    · cases he
    rename_i b l hc
    cases he
    rw [hc] at hv
    obtain ⟨v, r1, r2⟩ := field_sound (P := P) (w := w) hf hag h1 hob hv
    exact OpRes.pure_ hW hu (by simp [execOp, r1]) r2 rfl trivial
  | indexAddr t x i =>
    simp only [trOp, Option.bind_eq_bind, Option.bind_eq_some_iff] at tr
    obtain ⟨e, he0, tr⟩ := tr
    split at tr
    rotate_left
    · cases tr
    rename_i hpos
    simp only [Option.bind_eq_some_iff, Option.pure_def, Option.some.injEq] at tr
    obtain ⟨ax, hax, ai, hai, rfl⟩ := tr
    have hte : P.underlying t = some (.slice e) := by
      unfold elemT at he0
      split at he0
      · rename_i hu'; cases he0; exact hu'
      · cases he0
    simp only [absOp] at he
    split at he
    rotate_left
    · cases he
    rename_i p v hp
    cases he
    obtain ⟨u, r1, r2⟩ := iad_sound (P := P) (w := w) hu hte hpos hp hob (hx x (by simp [Op.operands]) ax hax) (hx i (by simp [Op.operands]) ai hai) hids
    exact OpRes.pure_ hW hu (by simp [execOp, r1]) r2 rfl trivial
  | extract x i =>
    simp only [trOp, Option.map_eq_some_iff] at tr
    obtain ⟨ax, hax, rfl⟩ := tr
    have hv := hx x (by simp [Op.operands]) ax hax
    simp only [absOp] at he
    split at he
    rotate_left
    · cases he
    rename_i l hc
    split at he
    rotate_left
    · cases he
    rename_i r hr
    obtain ⟨v, hv', e1, e2, e3⟩ := val_eff he
    cases hv'
    rw [hc] at hv
    have hrep := hv.tup_rep
    generalize hval : a.eval x = u at hrep
    cases hrep with
    | tup vs _ g1 g2 =>
      have hlt : i < vs.length := by
        rw [g1]
        rcases Nat.lt_or_ge i l.length with h | h
        · exact h
        · rw [List.getElem?_eq_none h] at hr; cases hr
      have hget : vs[i]? = some vs[i] := List.getElem?_eq_getElem hlt
      refine OpRes.pure_ (v := vs[i]) hW hu (by simp [execOp, hval, Instr.extract, hlt]) ?_ e2 e3
      rw [e1]
      exact .rep _ _ (g2 i _ r hget hr)
  | call c =>
    obtain ⟨callee, args, argTypes⟩ := c
    simp only [trOp] at tr
    split at tr
    · rename_i x hargs
      have hargs' : args = #[x] := by simpa using congrArg List.toArray hargs
      subst hargs'
      have hrun : ∀ v, (Builtin.len_ argTypes ty #[a.eval x]).run P w = .ok v w → (execOp a.eval { dst := dst, op := .call { callee := .builtin .len, args := #[x], argTypes := argTypes }, type := ty, pos := pos, after := after, guard := guard }).run P w = .ok (.value v) w := by
        intro v hv
        simp [execOp, resolve, invoke, builtin, hv]
      have hv := hx x (by simp [Op.operands, Call.operands])
      have key : ∀ (st : Bool) (ax : AX), trX x = some ax → aop = .len st ax → (st = false ∧ (∃ e, P.underlying (argTypes.getD 0 0) = some (.slice e)) ∨ st = true ∧ P.underlying (argTypes.getD 0 0) = some .string) → 0 < argTypes.size →
          OpRes P (execOp a.eval { dst := dst, op := .call { callee := .builtin .len, args := #[x], argTypes := argTypes }, type := ty, pos := pos, after := after, guard := guard }) U w0 own E w eff := by
        intro st ax hax haop hty hsz
        subst haop
        simp only [absOp] at he
        obtain ⟨v, r1, r2, r3, r4⟩ := len_sound (P := P) (w := w) (ty := ty) rfl hsz hty he (hv ax hax)
        exact OpRes.pure_ hW hu (hrun v r1) r2 r3 r4
      split at tr
      · cases tr
      rename_i hsz
      split at tr
      · rename_i e hk
        simp only [Option.map_eq_some_iff] at tr
        obtain ⟨ax, hax, rfl⟩ := tr
        exact key false ax hax rfl (.inl ⟨rfl, e, hk⟩) (by omega)
      · rename_i hk
        simp only [Option.map_eq_some_iff] at tr
        obtain ⟨ax, hax, rfl⟩ := tr
        exact key true ax hax rfl (.inr ⟨rfl, hk⟩) (by omega)
      · cases tr
    · rename_i sx x hargs
      have hargs' : args = #[sx, x] := by simpa using congrArg List.toArray hargs
      subst hargs'
      simp only [Option.bind_eq_bind, Option.bind_eq_some_iff] at tr
      obtain ⟨e, he0, z, hz, tr⟩ := tr
      split at tr
      rotate_left
      · cases tr
      rename_i hc
      obtain ⟨c1, c2, c3⟩ := hc
      simp only [Option.bind_eq_some_iff, Option.pure_def, Option.some.injEq] at tr
      obtain ⟨as, has, ax, hax, rfl⟩ := tr
      have hte : P.underlying (argTypes.getD 0 0) = some (.slice e) := by
        unfold elemT at he0
        split at he0
        · rename_i hu'; cases he0; exact hu'
        · cases he0
      simp only [absOp] at he
      obtain ⟨v, w', E', r1, r2, r3, r4, r5⟩ := app_sound (P := P) (s := s) (ty := ty) hW hu (fun h => hn (by simp only [creates, h])) hte hz c3 c2 he hob (hx sx (by simp [Op.operands, Call.operands]) as has) (hx x (by simp [Op.operands, Call.operands]) ax hax)
        (fun i hi => hids i (List.mem_append_left _ hi)) (fun i hi => hids i (List.mem_append_right _ hi))
      rw [← c1] at r1
      exact ⟨v, w', E', .inl (by simp [execOp, resolve, invoke, builtin, r1]), r2, r3, r4, r5⟩
    · rename_i x y hargs
      have hargs' : args = #[x, y] := by simpa using congrArg List.toArray hargs
      subst hargs'
      simp only [Option.bind_eq_bind, Option.bind_eq_some_iff, Option.pure_def, Option.some.injEq] at tr
      obtain ⟨ax, hax, ay, hay, rfl⟩ := tr
      have h1 := hx x (by simp [Op.operands, Call.operands]) ax hax
      have h2 := hx y (by simp [Op.operands, Call.operands]) ay hay
      simp only [absOp] at he
      split at he
      rotate_left
      · cases he
      rename_i k n k' m hn1 hn2
      obtain ⟨v, hv', e1, e2, e3⟩ := val_eff he
      cases hv'
      rw [hn1] at h1
      rw [hn2] at h2
      refine OpRes.pure_ hW hu (v := .int k (if m > n then m else n)) (by simp [execOp, resolve, invoke, builtin, Builtin.max_, Builtin.max2, int_of h1, int_of h2]) ?_ e2 e3
      rw [e1]
      exact .rep _ _ (.int _ _)
    · rename_i x y hargs
      have hargs' : args = #[x, y] := by simpa using congrArg List.toArray hargs
      subst hargs'
      simp only [Option.bind_eq_bind, Option.bind_eq_some_iff, Option.pure_def, Option.some.injEq] at tr
      obtain ⟨ax, hax, ay, hay, rfl⟩ := tr
      have h1 := hx x (by simp [Op.operands, Call.operands]) ax hax
      have h2 := hx y (by simp [Op.operands, Call.operands]) ay hay
      simp only [absOp] at he
      split at he
      rotate_left
      · cases he
      rename_i k n k' m hn1 hn2
      obtain ⟨v, hv', e1, e2, e3⟩ := val_eff he
      cases hv'
      rw [hn1] at h1
      rw [hn2] at h2
      refine OpRes.pure_ hW hu (v := .int k (if m < n then m else n)) (by simp [execOp, resolve, invoke, builtin, Builtin.min_, Builtin.min2, int_of h1, int_of h2]) ?_ e2 e3
      rw [e1]
      exact .rep _ _ (.int _ _)
    · split at tr
      · split at tr
        · simp only [Option.map_eq_some_iff] at tr
          obtain ⟨xs, _, rfl⟩ := tr
          simp [absOp] at he
        · cases tr
      · cases tr
    · simp only [Option.map_eq_some_iff] at tr
      obtain ⟨xs, _, rfl⟩ := tr
      simp [absOp] at he
    · cases tr
  | _ => simp [trOp] at tr
end
end Go.Proofs.Ytadmdmhocglkfaa.Abs
