/- Code and calls of the abstract machine are those of the model; pieces of the library as one step each. -/
import Derived.Test.YtmpaepfagmofoaaGreatDoorAxE
import Derived.Test.YtmpaepfagmofoaaGreatDoorAxA
import Derived.Lib.BitFns
import Derived.Lib.SplitLaws
import Derived.Deep.Draws
import Derived.Lib.ItoaNum
import Derived.Lib.ParseIntB
import Derived.Lib.Join
set_option linter.all false
namespace Go.Ax
open Go
variable {H : HeapI}

variable {P : Program} {n : Nat} {call : (CallF H)} {τ τ' : Env} {σ σ' : (St H)} {M : Mp} {w : World} {a : Act}

theorem some_inj3 {α β γ : Type} {a a' : α} {b b' : β} {c c' : γ} (h : some (a, b, c) = some (a', b', c')) : a = a' ∧ b = b' ∧ c = c' := by
  injection h with h; injection h with h1 h; injection h with h2 h3; exact ⟨h1, h2, h3⟩

theorem thenX_some {k : Env → (St H) → (RX H)} {r : (RX H)} {y : AX × Env × (St H)} (h : thenX k r = some y) :
    (∃ τ σ, r = some (.normal, τ, σ) ∧ k τ σ = some y) ∨ (∃ x τ σ, r = some (x, τ, σ) ∧ x ≠ .normal ∧ y = (x, τ, σ)) := by
  cases r with
  | none => cases h
  | some r =>
    obtain ⟨x, τ, σ⟩ := r
    cases x with
    | normal => exact .inl ⟨τ, σ, rfl, h⟩
    | exit id =>
      have h : some (AX.exit id, τ, σ) = some y := h
      injection h with h; exact .inr ⟨_, τ, σ, rfl, (by simp), h.symm⟩
    | ret =>
      have h : some (AX.ret, τ, σ) = some y := h
      injection h with h; exact .inr ⟨_, τ, σ, rfl, (by simp), h.symm⟩

theorem blockX_some {id : Nat} {r : (RX H)} {y : AX × Env × (St H)} (h : blockX id r = some y) :
    ∃ x τ σ, r = some (x, τ, σ) ∧ ((x = .normal ∧ y = (.normal, τ, σ)) ∨ (x = .exit id ∧ y = (.normal, τ, σ)) ∨ (∃ id', x = .exit id' ∧ id' ≠ id ∧ y = (.exit id', τ, σ)) ∨ (x = .ret ∧ y = (.ret, τ, σ))) := by
  cases r with
  | none => cases h
  | some r =>
    obtain ⟨x, τ, σ⟩ := r
    refine ⟨x, τ, σ, rfl, ?_⟩
    cases x with
    | normal =>
      have h : some (AX.normal, τ, σ) = some y := h
      injection h with h; exact .inl ⟨rfl, h.symm⟩
    | exit id' =>
      have h : (Bool.rec (some (.exit id', τ, σ)) (some (.normal, τ, σ)) (Nat.beq id' id) : (RX H)) = some y := h
      by_cases e : id' = id
      · subst e
        rw [beq_yes] at h
        have h : some (AX.normal, τ, σ) = some y := h
        injection h with h; exact .inr (.inl ⟨rfl, h.symm⟩)
      · rw [beq_no e] at h
        have h : some (AX.exit id', τ, σ) = some y := h
        injection h with h; exact .inr (.inr (.inl ⟨id', rfl, e, h.symm⟩))
    | ret =>
      have h : some (AX.ret, τ, σ) = some y := h
      injection h with h; exact .inr (.inr (.inr ⟨rfl, h.symm⟩))

theorem dis_grows (hG : GrowsC call) : ∀ (l : List DI) (ns : List Note) (τ : Env) (σ : (St H)) (τ' : Env) (σ' : (St H)), dis l call ns τ σ = some (τ', σ') → σ.nxt ≤ σ'.nxt
  | [], _, _, _, _, _, h => by obtain ⟨_, rfl⟩ := some_inj2 h; exact Nat.le_refl _
  | .pure i :: l, ns, τ, σ, τ', σ', h => by
    obtain ⟨τ1, σ1, h1, h2⟩ := dis_pure h
    exact Nat.le_trans (ai_grows hG h1) (dis_grows hG l ns _ _ _ _ h2)
  | .read i id :: l, ns, τ, σ, τ', σ', h => by
    rcases dis_read h with ⟨_, h2⟩ | ⟨_, v, σ1, h1, h2⟩
    · exact dis_grows hG l ns _ _ _ _ h2
    · exact Nat.le_trans (aop_grows hG _ h1) (dis_grows hG l _ _ _ _ _ h2)
  | .effect i chk :: l, ns, τ, σ, τ', σ', h => by
    obtain ⟨τ1, σ1, _, _, h1, h2⟩ := dis_effect h
    exact Nat.le_trans h1 (dis_grows hG l ns _ _ _ _ h2)

theorem aloop_grows {body : Env → (St H) → (RX H)} (hb : ∀ τ σ x τ' σ', body τ σ = some (x, τ', σ') → σ.nxt ≤ σ'.nxt) : ∀ k τ σ x τ' σ', aloop body k τ σ = some (x, τ', σ') → σ.nxt ≤ σ'.nxt
  | 0, τ, σ, x, τ', σ', h => by cases h
  | k + 1, τ, σ, x, τ', σ', h => by
    have h : thenX (aloop body k) (body τ σ) = some (x, τ', σ') := h
    rcases thenX_some h with ⟨τ1, σ1, h1, h2⟩ | ⟨x1, τ1, σ1, h1, _, h2⟩
    · exact Nat.le_trans (hb _ _ _ _ _ h1) (aloop_grows hb k _ _ _ _ _ h2)
    · injection h2 with _ h2; injection h2 with _ h2; subst h2
      exact hb _ _ _ _ _ h1

theorem acode_grows (hG : GrowsC call) (fuel : Nat) : ∀ (c : ACode) τ σ x τ' σ', acode c call fuel τ σ = some (x, τ', σ') → σ.nxt ≤ σ'.nxt := by
  intro c
  induction c with
  | skip =>
    intro τ σ x τ' σ' h
    have h : some (AX.normal, τ, σ) = some (x, τ', σ') := h
    injection h with h; injection h with _ h; injection h with _ h; subst h; exact Nat.le_refl _
  | region l =>
    intro τ σ x τ' σ' h
    have h : (Option.rec none (fun p => some (.normal, p)) (ais l call τ σ) : (RX H)) = some (x, τ', σ') := h
    cases ha : ais l call τ σ with
    | none => rw [ha] at h; cases h
    | some p =>
      rw [ha] at h
      have h : some (AX.normal, p) = some (x, τ', σ') := h
      injection h with h; injection h with _ h; subst h
      exact ais_grows hG ha
  | dregion l =>
    intro τ σ x τ' σ' h
    have h : (Option.rec none (fun p => some (.normal, p)) (dis l call [] τ σ) : (RX H)) = some (x, τ', σ') := h
    cases ha : dis l call [] τ σ with
    | none => rw [ha] at h; cases h
    | some p =>
      rw [ha] at h
      have h : some (AX.normal, p) = some (x, τ', σ') := h
      injection h with h; injection h with _ h; subst h
      exact dis_grows hG _ _ _ _ _ _ ha
  | seq c1 c2 ih1 ih2 =>
    intro τ σ x τ' σ' h
    have h : thenX (acode c2 call fuel) (acode c1 call fuel τ σ) = some (x, τ', σ') := h
    rcases thenX_some h with ⟨τ1, σ1, h1, h2⟩ | ⟨x1, τ1, σ1, h1, _, h2⟩
    · exact Nat.le_trans (ih1 _ _ _ _ _ h1) (ih2 _ _ _ _ _ h2)
    · injection h2 with _ h2; injection h2 with _ h2; subst h2
      exact ih1 _ _ _ _ _ h1
  | cond c c1 c2 ih1 ih2 =>
    intro τ σ x τ' σ' h
    have h : (match ev c τ with | .bool true => acode c1 call fuel τ σ | .bool false => acode c2 call fuel τ σ | _ => none) = some (x, τ', σ') := h
    split at h
    · exact ih1 _ _ _ _ _ h
    · exact ih2 _ _ _ _ _ h
    · cases h
  | block id b ih =>
    intro τ σ x τ' σ' h
    obtain ⟨x1, τ1, σ1, h1, h2⟩ := blockX_some (show blockX id (acode b call fuel τ σ) = some (x, τ', σ') from h)
    have : σ' = σ1 := by rcases h2 with ⟨_, h⟩ | ⟨_, h⟩ | ⟨_, _, _, h⟩ | ⟨_, h⟩ <;> (injection h with _ h; injection h)
    subst this
    exact ih _ _ _ _ _ h1
  | loop b ih =>
    intro τ σ x τ' σ' h
    exact aloop_grows ih fuel _ _ _ _ _ h
  | exit id =>
    intro τ σ x τ' σ' h
    have h : some (AX.exit id, τ, σ) = some (x, τ', σ') := h
    injection h with h; injection h with _ h; injection h with _ h; subst h; exact Nat.le_refl _
  | ret =>
    intro τ σ x τ' σ' h
    have h : some (AX.ret, τ, σ) = some (x, τ', σ') := h
    injection h with h; injection h with _ h; injection h with _ h; subst h; exact Nat.le_refl _
  | fail => intro τ σ x τ' σ' h; cases h

theorem CallOK.grows (hC : CallOK P call) : GrowsC call := fun f args σ v σ' h => (hC f args σ v σ' h).2.1

/-- a plain region's steps -/
theorem ais_sound (hC : CallOK P call) (hn : n ≤ 512) {ops : Array Oper} (b : Frame) (k : List Item) (cs : List Frame) : ∀ (l : List Oper) (i : Nat) (M : Mp) (a : Act) (τ : Env) (σ : (St H)) (w : World),
    ops.toList.drop i = l → HRel M σ w → ERel n M τ a.tmps → Fresh M σ σ' → ais (l.map (cai P n ops.toList)) call τ σ = some (τ', σ') →
    ∃ M' a' w', a'.defers = a.defers ∧ ERel n M' τ' a'.tmps ∧ Goes M σ w M' σ' w' ∧
      Steps P (lone (b.at a (.inRegion ops (List.range' i l.length) :: k)) cs w) (lone (b.at a' (.inRegion ops [] :: k)) cs w')
  | [], i, M, a, τ, σ, w, hd, hH, hE, fr, h => by
    obtain ⟨rfl, rfl⟩ := some_inj2 (show some (τ, σ) = some (τ', σ') from h)
    exact ⟨M, a, w, rfl, hE, Goes.refl hH, Steps.refl _ _⟩
  | o :: l, i, M, a, τ, σ, w, hd, hH, hE, fr, h => by
    obtain ⟨τ1, σ1, h1, h2⟩ := ais_cons h
    have ho : ops[i]? = some o := by
      have : (ops.toList.drop i)[0]? = some o := by rw [hd]; rfl
      simpa using this
    have hd' : ops.toList.drop (i + 1) = l := by rw [← List.drop_drop, hd]; rfl
    have hle1 := ai_grows hC.grows h1
    have hle2 := ais_grows hC.grows h2
    obtain ⟨M1, a1, w1, e1, e2, e3, e4⟩ := ai_sound hC hn ho hH hE (fr.left hle2) h1 b k cs (List.range' (i + 1) l.length)
    obtain ⟨M2, a2, w2, f1, f2, f3, f4⟩ := ais_sound hC hn b k cs l (i + 1) M1 a1 τ1 σ1 w1 hd' e3.rel e2 (fr.right e3) h2
    refine ⟨M2, a2, w2, f1.trans e1, f2, e3.trans f3, Steps.trans ?_ f4⟩
    rw [List.length_cons, List.range'_succ]
    exact e4

/-- how code ends -/
def AX.to : AX → Exit
  | .normal => .normal
  | .exit id => .exit id
  | .ret => .ret

/-- what the model's code comes to -/
def Post (n : Nat) (M : Mp) (σ : (St H)) (w : World) (d : List Deferred) (x : AX) (τ' : Env) (σ' : (St H)) (e : Exit) (a' : Act) (w' : World) : Prop :=
  e = x.to ∧ ∃ M', a'.defers = d ∧ ERel n M' τ' a'.tmps ∧ Goes M σ w M' σ' w'

theorem code_sound (hC : CallOK P call) (hn : n ≤ 512) (hmix : P.follows .mixedOrders = true) (fuel : Nat) : ∀ (c : Code) (M : Mp) (a : Act) (τ : Env) (σ : (St H)) (w : World) (x : AX) (τ' : Env) (σ' : (St H)),
    acode (ccode P n c) call fuel τ σ = some (x, τ', σ') → HRel M σ w → ERel n M τ a.tmps → Fresh M σ σ' → c.wp P (Post n M σ w a.defers x τ' σ') a w := by
  intro c
  induction c with
  | skip =>
    intro M a τ σ w x τ' σ' h hH hE fr
    have h : some (AX.normal, τ, σ) = some (x, τ', σ') := h
    obtain ⟨rfl, rfl, rfl⟩ := some_inj3 h
    exact wp_skip ⟨rfl, M, rfl, hE, Goes.refl hH⟩
  | region id ops d =>
    intro M a τ σ w x τ' σ' h hH hE fr b k cs
    cases d with
    | false =>
      have h : (Option.rec none (fun p => some (.normal, p)) (ais (ops.toList.map (cai P n ops.toList)) call τ σ) : (RX H)) = some (x, τ', σ') := h
      cases ha : ais (ops.toList.map (cai P n ops.toList)) call τ σ with
      | none => rw [ha] at h; cases h
      | some p =>
        rw [ha] at h
        have h : some (AX.normal, p) = some (x, τ', σ') := h
        obtain ⟨rfl, rfl⟩ := some_inj2 h
        obtain ⟨M', a', w', e1, e2, e3, e4⟩ := ais_sound hC hn b k cs ops.toList 0 M a τ σ w rfl hH hE fr ha
        refine ⟨.normal, a', w', ⟨rfl, M', e1, e2, e3⟩, ?_⟩
        refine .head step_region (Steps.trans ?_ (.one (step_region_end (ops := ops))))
        rw [List.range_eq_range']
        simpa using e4
    | true =>
      have hcc : ccode P n (.region id ops true) = (bif Nat.beq (order (nodes P n ops.toList ops.toList 0 []).length 0 (nodes P n ops.toList ops.toList 0 [])).length (nodes P n ops.toList ops.toList 0 []).length &&
          orderOk (order (nodes P n ops.toList ops.toList 0 []).length 0 (nodes P n ops.toList ops.toList 0 [])) [] 0 then .dregion (items (order (nodes P n ops.toList ops.toList 0 []).length 0 (nodes P n ops.toList ops.toList 0 [])) []) else .fail) := rfl
      rw [hcc] at h
      cases hb : (Nat.beq (order (nodes P n ops.toList ops.toList 0 []).length 0 (nodes P n ops.toList ops.toList 0 [])).length (nodes P n ops.toList ops.toList 0 []).length &&
          orderOk (order (nodes P n ops.toList ops.toList 0 []).length 0 (nodes P n ops.toList ops.toList 0 [])) [] 0) with
      | false => rw [hb] at h; cases h
      | true =>
        rw [hb] at h
        simp only [Bool.and_eq_true] at hb
        have h : (Option.rec none (fun p => some (.normal, p)) (dis (items (order (nodes P n ops.toList ops.toList 0 []).length 0 (nodes P n ops.toList ops.toList 0 [])) []) call [] τ σ) : (RX H)) = some (x, τ', σ') := h
        cases ha : dis (items (order (nodes P n ops.toList ops.toList 0 []).length 0 (nodes P n ops.toList ops.toList 0 [])) []) call [] τ σ with
        | none => rw [ha] at h; cases h
        | some p =>
          rw [ha] at h
          have h : some (AX.normal, p) = some (x, τ', σ') := h
          obtain ⟨rfl, rfl⟩ := some_inj2 h
          have hH' : HRel M σ { w with drawn := w.drawn + 1 } := hH.of_heap rfl
          obtain ⟨M', a', w', e1, e2, e3, e4⟩ := draw_sound hC hn rfl (Nat.eq_of_beq_eq_true hb.1) hb.2 ha hE hH' fr b k cs (w.tape w.drawn (.order b.fn id))
          refine ⟨.normal, a', w', ⟨rfl, M', e1, e2, (Goes.draw hH _).trans e3⟩, ?_⟩
          refine .head step_region_draw (Steps.trans ?_ (.one (step_region_end (ops := ops))))
          simp only [Region.schedule, hmix, Bool.true_or, if_true]
          exact e4
  | seq c1 c2 ih1 ih2 =>
    intro M a τ σ w x τ' σ' h hH hE fr
    have h : thenX (acode (ccode P n c2) call fuel) (acode (ccode P n c1) call fuel τ σ) = some (x, τ', σ') := h
    refine wp_seq ?_
    rcases thenX_some h with ⟨τ1, σ1, h1, h2⟩ | ⟨x1, τ1, σ1, h1, hx, h2⟩
    · have hle := acode_grows hC.grows fuel _ _ _ _ _ _ h2
      refine wp_mono (ih1 M a τ σ w _ τ1 σ1 h1 hH hE (fr.left hle)) ?_
      rintro e a1 w1 ⟨rfl, M1, e1, e2, e3⟩
      refine wp_mono (ih2 M1 a1 τ1 σ1 w1 x τ' σ' h2 e3.rel e2 (fr.right e3)) ?_
      rintro e a2 w2 ⟨rfl, M2, f1, f2, f3⟩
      exact ⟨rfl, M2, f1.trans e1, f2, e3.trans f3⟩
    · injection h2 with h2 h3; injection h3 with h3 h4; subst h2; subst h3; subst h4
      refine wp_mono (ih1 M a τ σ w _ _ _ h1 hH hE fr) ?_
      rintro e a1 w1 ⟨rfl, hp⟩
      cases x with
      | normal => exact absurd rfl hx
      | exit id => exact ⟨rfl, hp⟩
      | ret => exact ⟨rfl, hp⟩
  | cond c c1 c2 ih1 ih2 =>
    intro M a τ σ w x τ' σ' h hH hE fr
    have hcc : ccode P n (.cond c c1 c2) = (match cod n c with | some c => .cond c (ccode P n c1) (ccode P n c2) | none => .fail) := rfl
    rw [hcc] at h
    cases hc : cod n c with
    | none => rw [hc] at h; cases h
    | some y =>
      rw [hc] at h
      have h : (match ev y τ with | .bool true => acode (ccode P n c1) call fuel τ σ | .bool false => acode (ccode P n c2) call fuel τ σ | _ => none) = some (x, τ', σ') := h
      have hr := cod_rel hE hc
      split at h
      · rename_i hv
        rw [hv] at hr
        exact wp_cond_true hr.bool_inv (ih1 M a τ σ w x τ' σ' h hH hE fr)
      · rename_i hv
        rw [hv] at hr
        exact wp_cond_false hr.bool_inv (ih2 M a τ σ w x τ' σ' h hH hE fr)
      · cases h
  | block id b ih =>
    intro M a τ σ w x τ' σ' h hH hE fr
    obtain ⟨x1, τ1, σ1, h1, h2⟩ := blockX_some (show blockX id (acode (ccode P n b) call fuel τ σ) = some (x, τ', σ') from h)
    have h3 : τ' = τ1 ∧ σ' = σ1 := by rcases h2 with ⟨_, h⟩ | ⟨_, h⟩ | ⟨_, _, _, h⟩ | ⟨_, h⟩ <;> (injection h with _ h; injection h with h3 h4; exact ⟨h3, h4⟩)
    obtain ⟨rfl, rfl⟩ := h3
    refine wp_block (wp_mono (ih M a τ σ w x1 τ' σ' h1 hH hE fr) ?_)
    rintro e a1 w1 ⟨rfl, hp⟩
    rcases h2 with ⟨rfl, h⟩ | ⟨rfl, h⟩ | ⟨id', rfl, hne, h⟩ | ⟨rfl, h⟩ <;> injection h with h _ <;> subst h
    · exact ⟨rfl, hp⟩
    · show (if id = id then Post n M σ w a.defers .normal τ' σ' .normal a1 w1 else _)
      rw [if_pos rfl]; exact ⟨rfl, hp⟩
    · show (if id' = id then _ else Post n M σ w a.defers (.exit id') τ' σ' (.exit id') a1 w1)
      rw [if_neg hne]; exact ⟨rfl, hp⟩
    · exact ⟨rfl, hp⟩
  | loop c ih =>
    intro M a τ σ w x τ' σ' h hH hE fr b k cs
    have key : ∀ (m : Nat) (M : Mp) (a : Act) (τ : Env) (σ : (St H)) (w : World), aloop (acode (ccode P n c) call fuel) m τ σ = some (x, τ', σ') → HRel M σ w → ERel n M τ a.tmps → Fresh M σ σ' →
        ∃ e a' w', Post n M σ w a.defers x τ' σ' e a' w' ∧ Arrives P (lone (b.at a (.code c :: .inLoop c :: k)) cs w) b k cs e a' w' := by
      intro m
      induction m with
      | zero => intro M a τ σ w h; cases h
      | succ m ihm =>
        intro M a τ σ w h hH hE fr
        have h : thenX (aloop (acode (ccode P n c) call fuel) m) (acode (ccode P n c) call fuel τ σ) = some (x, τ', σ') := h
        rcases thenX_some h with ⟨τ1, σ1, h1, h2⟩ | ⟨x1, τ1, σ1, h1, hx, h2⟩
        · have hle := aloop_grows (acode_grows hC.grows fuel _) m _ _ _ _ _ h2
          obtain ⟨e, a1, w1, ⟨rfl, M1, e1, e2, e3⟩, harr⟩ := ih M a τ σ w _ τ1 σ1 h1 hH hE (fr.left hle) b (.inLoop c :: k) cs
          obtain ⟨e, a2, w2, ⟨rfl, M2, f1, f2, f3⟩, harr2⟩ := ihm M1 a1 τ1 σ1 w1 h2 e3.rel e2 (fr.right e3)
          exact ⟨_, a2, w2, ⟨rfl, M2, f1.trans e1, f2, e3.trans f3⟩, .of_steps (Steps.trans harr (.one step_inLoop)) harr2⟩
        · injection h2 with h2 h3; injection h3 with h3 h4; subst h2; subst h3; subst h4
          obtain ⟨e, a1, w1, ⟨rfl, hp⟩, harr⟩ := ih M a τ σ w _ _ _ h1 hH hE fr b (.inLoop c :: k) cs
          refine ⟨x.to, a1, w1, ⟨rfl, hp⟩, .pass (x := .inLoop c) rfl (fun _ _ => .inl ?_) harr⟩
          cases x with
          | normal => exact absurd rfl hx
          | exit id => simp [AX.to]
          | ret => simp [AX.to]
    obtain ⟨e, a', w', hp, harr⟩ := key fuel M a τ σ w h hH hE fr
    exact ⟨e, a', w', hp, .of_steps (.one step_loop) harr⟩
  | exit id =>
    intro M a τ σ w x τ' σ' h hH hE fr
    have h : some (AX.exit id, τ, σ) = some (x, τ', σ') := h
    obtain ⟨rfl, rfl, rfl⟩ := some_inj3 h
    exact wp_exit ⟨rfl, M, rfl, hE, Goes.refl hH⟩
  | ret =>
    intro M a τ σ w x τ' σ' h hH hE fr
    have h : some (AX.ret, τ, σ) = some (x, τ', σ') := h
    obtain ⟨rfl, rfl, rfl⟩ := some_inj3 h
    exact wp_ret ⟨rfl, M, rfl, hE, Goes.refl hH⟩
  | rangeFunc _ _ _ _ _ => intro M a τ σ w x τ' σ' h; cases h
  | scope _ _ => intro M a τ σ w x τ' σ' h; cases h
  | label _ => intro M a τ σ w x τ' σ' h; cases h
  | goto _ => intro M a τ σ w x τ' σ' h; cases h
  | refuse _ => intro M a τ σ w x τ' σ' h; cases h

end Go.Ax

namespace Go.Ax
open Go
variable {H : HeapI}

variable {P : Program} {n : Nat} {call : (CallF H)} {τ τ' : Env} {σ σ' : (St H)} {M : Mp} {w : World} {a : Act}

theorem init_cons (v : Value) (l : List Value) (k : Nat) (τ : Env) : init (v :: l) k τ = init l (k + 1) (Tr.set 9 (some v) τ k) := rfl

theorem ev_init : ∀ (l : List Value) (k : Nat) (τ : Env) (t : Nat), k + l.length ≤ 512 → ev (.tmp t) (init l k τ) = if k ≤ t ∧ t < k + l.length then l.getD (t - k) undefV else ev (.tmp t) τ
  | [], k, τ, t, _ => by rw [if_neg (by simp)]; rfl
  | v :: l, k, τ, t, h => by
    simp only [List.length_cons] at h
    rw [init_cons, ev_init l (k + 1) _ t (by omega)]
    have hset : ev (.tmp t) (Tr.set 9 (some v) τ k) = if t = k then v else ev (.tmp t) τ := by
      have hk : k < 2 ^ 9 := by omega
      rw [ev_tmp, ev_tmp]
      by_cases e : t = k
      · subst e; rw [Tr.get_set 9 _ _ _ hk]; simp
      · rw [Tr.get_set_ne 9 _ _ _ _ hk e]; simp [e]
    rw [hset]
    by_cases e : t = k
    · subst e
      rw [if_neg (by omega), if_pos rfl, if_pos (by simp)]
      simp
    · rw [if_neg e]
      by_cases h2 : k + 1 ≤ t ∧ t < k + 1 + l.length
      · rw [if_pos h2, if_pos (by simp only [List.length_cons]; omega), show t - k = (t - (k + 1)) + 1 by omega]
        simp
      · rw [if_neg h2, if_neg (by simp only [List.length_cons]; omega)]

theorem init_rel {args : List Value} {args' : Array Value} (hn : n ≤ 512) (hl : args.length ≤ n) (h : All2 (VRel M) args args'.toList) :
    ERel n M (init args 0 .leaf) (args' ++ Array.replicate (n - args'.size) undef) := by
  have hlen : args.length = args'.size := by have := h.length; simpa using this
  refine ⟨by simp; omega, fun t ht => ?_⟩
  rw [ev_init args 0 _ t (by omega)]
  by_cases hta : t < args.length
  · rw [if_pos ⟨Nat.zero_le _, by omega⟩]
    obtain ⟨v', h1, h2⟩ := h.get t args[t] (List.getElem?_eq_getElem hta)
    have h1 : args'[t]? = some v' := by simpa using h1
    have e1 : args.getD (t - 0) undefV = args[t] := by simp [List.getD_eq_getElem?_getD, hta]
    have e2 : (args' ++ Array.replicate (n - args'.size) undef).getD t undef = v' := by
      simp [Array.getD_eq_getD_getElem?, Array.getElem?_append_left (show t < args'.size by omega), h1]
    rw [e1, e2]; exact h2
  · rw [if_neg (by omega)]
    have e1 : ev (.tmp t) (.leaf : Env) = undefV := by rw [ev_tmp, Tr.get_leaf]; rfl
    have e2 : (args' ++ Array.replicate (n - args'.size) undef).getD t undef = undef := by
      rw [Array.getD_eq_getD_getElem?, Array.getElem?_append_right (by omega), Array.getElem?_replicate]
      split <;> rfl
    rw [e1, e2]; exact undef_rel M

theorem list_mapM_run {α β : Type} {f : α → Sem β} {w : World} : ∀ {l : List α} {r : List β}, All2 (fun x y => (f x).run P w = .ok y w) l r → (l.mapM f).run P w = .ok r w
  | _, _, .nil => by rw [List.mapM_nil]; rfl
  | _, _, .cons h t => by
    rw [List.mapM_cons]
    simp only [Sem.run_bind, h, Result.andThen_ok, list_mapM_run t, Sem.run_pure]

theorem array_mapM_run {α β : Type} {f : α → Sem β} {w : World} {l : Array α} {r : List β} (h : All2 (fun x y => (f x).run P w = .ok y w) l.toList r) : (l.mapM f).run P w = .ok r.toArray w := by
  rw [Array.mapM_eq_mapM_toList, ← bind_pure_comp]
  simp only [Sem.run_bind, list_mapM_run h, Result.andThen_ok]
  rfl

def resF (tmps : Array Value) : ResultVar → Sem Value
  | .tmp t => pure (tmps.getD t undef)
  | .cell ad t => do loadVar t (← asAddr (tmps.getD ad undef))

theorem results_eq (fn : Func) (tmps : Array Value) : results fn tmps = (do let vs ← fn.results.mapM (resF tmps); pure (if h : vs.size = 1 then vs[0] else .tuple vs)) := by
  unfold results
  congr 2

theorem ares_run {r : ResultVar} {v : Value} (hH : HRel M σ w) (hE : ERel n M τ a.tmps) (h : ares τ σ (cres P n r) = some v) :
    ∃ v', (resF a.tmps r).run P w = .ok v' w ∧ VRel M v v' := by
  cases r with
  | tmp t =>
    simp only [cres] at h
    cases hb : Nat.blt t n with
    | false => rw [hb] at h; cases h
    | true =>
      rw [hb] at h
      have h : some (ev (.tmp t) τ) = some v := h
      injection h with h; subst h
      exact ⟨_, rfl, hE.at_ t (Nat.le_of_ble_eq_true hb)⟩
  | cell ad t =>
    simp only [cres] at h
    split at h
    · rename_i s g hs hg
      cases hb : Nat.blt ad n with
      | false => rw [hb] at h; cases h
      | true =>
        rw [hb] at h
        have h : (match ev (.tmp ad) τ with
          | .pointer (some a) => Option.rec none (fun cs => mkv g s cs a.off) (σ.cells a.block)
          | _ => none) = some v := h
        have hr := hE.at_ ad (Nat.le_of_ble_eq_true hb)
        split at h
        · rename_i p hp
          rw [hp] at hr
          obtain ⟨pb, po, ps⟩ := p
          obtain ⟨rfl, B, O, x, hM, hv'⟩ := hr.ptr_inv
          cases hc : σ.cells pb with
          | none => rw [hc] at h; cases h
          | some cs =>
            rw [hc] at h
            have h : mkv g s cs po = some v := h
            obtain ⟨ro, z, hobj⟩ := cells_obj hc
            obtain ⟨B', O', x', hM', hor⟩ := hH.at_ _ _ hobj
            rw [hM] at hM'; injection hM' with e; injection e with e1 e; injection e with e2 e3; subst e1; subst e2; subst e3
            cases hor with
            | cells hb2 hcells _ _ hz0 =>
              obtain ⟨v', h1, h2⟩ := mkv_load hg hs hb2 hcells h
              refine ⟨v', ?_, h2⟩
              simp only [resF, Sem.run_bind, hv', asAddr, Sem.run_pure, Result.andThen_ok]
              exact h1
        · cases h
    · cases h

theorem aresL_run (hH : HRel M σ w) (hE : ERel n M τ a.tmps) : ∀ {l : List ResultVar} {vs : List Value}, aresL τ σ (l.map (cres P n)) = some vs →
    ∃ vs', All2 (fun r y => (resF a.tmps r).run P w = .ok y w) l vs' ∧ All2 (VRel M) vs vs'
  | [], vs, h => by
    have h : some [] = some vs := h
    injection h with h; subst h; exact ⟨[], .nil, .nil⟩
  | r :: l, vs, h => by
    have h : (Option.rec none (fun v => Option.rec none (fun vs => some (v :: vs)) (aresL τ σ (l.map (cres P n)))) (ares τ σ (cres P n r)) : Option (List Value)) = some vs := h
    cases h1 : ares τ σ (cres P n r) with
    | none => rw [h1] at h; cases h
    | some v =>
      rw [h1] at h
      have h : (Option.rec none (fun vs => some (v :: vs)) (aresL τ σ (l.map (cres P n))) : Option (List Value)) = some vs := h
      cases h2 : aresL τ σ (l.map (cres P n)) with
      | none => rw [h2] at h; cases h
      | some us =>
        rw [h2] at h
        have h : some (v :: us) = some vs := h
        injection h with h; subst h
        obtain ⟨v', a1, a2⟩ := ares_run hH hE h1
        obtain ⟨us', b1, b2⟩ := aresL_run hH hE h2
        exact ⟨v' :: us', .cons a1 b1, .cons a2 b2⟩

theorem aresV_run {fn : Func} {v : Value} (hH : HRel M σ w) (hE : ERel n M τ a.tmps) (h : aresV τ σ (fn.results.toList.map (cres P n)) = some (v, σ')) :
    σ' = σ ∧ ∃ v', (results fn a.tmps).run P w = .ok v' w ∧ VRel M v v' := by
  unfold aresV at h
  have run : ∀ vs, aresL τ σ (fn.results.toList.map (cres P n)) = some vs → ∃ vs', All2 (VRel M) vs vs' ∧ (results fn a.tmps).run P w = .ok (if h : vs'.toArray.size = 1 then vs'.toArray[0] else .tuple vs'.toArray) w := fun vs hvs => by
    obtain ⟨vs', h1, h2⟩ := aresL_run (P := P) hH hE hvs
    refine ⟨vs', h2, ?_⟩
    rw [results_eq, Sem.run_bind, array_mapM_run (P := P) (w := w) h1]
    rfl
  split at h
  · rename_i u hu
    obtain ⟨rfl, rfl⟩ := some_inj2 h
    obtain ⟨vs', h1, h2⟩ := run _ hu
    refine ⟨rfl, ?_⟩
    cases h1 with | cons h1 h3 => cases h3 with | nil => exact ⟨_, h2, h1⟩
  · rename_i us hne hu
    obtain ⟨rfl, rfl⟩ := some_inj2 h
    obtain ⟨vs', h1, h2⟩ := run _ hu
    refine ⟨rfl, .tuple vs'.toArray, ?_, .tuple h1⟩
    rw [h2, dif_neg]
    intro e
    have hl := h1.length
    simp at e
    rw [e] at hl
    match us, hl, hne with
    | [u], _, hne => exact hne u rfl
  · cases h

theorem abody_sound (hC : CallOK P call) (hmix : P.follows .mixedOrders = true) {f : FuncId} {fn : AFn} (hf : cfn P f = some fn) {fuel : Nat} {args : List Value} {v : Value}
    (h : abody call fuel fn args σ = some (v, σ')) : callable P f = true ∧ σ.nxt ≤ σ'.nxt ∧ Does P f args σ v σ' := by
  unfold cfn at hf
  split at hf
  · rename_i F hF
    split at hf
    · rename_i c hc
      obtain ⟨hb, hf⟩ := bif_s hf
      injection hf with hf; subst hf
      simp only [Bool.and_eq_true, Bool.not_eq_true'] at hb
      obtain ⟨⟨hb1, _⟩, hb3⟩ := hb
      have hn := Nat.le_of_ble_eq_true hb1
      have hcall : callable P f = true := by unfold callable; rw [hF]; simp [hc, hb3]
      unfold abody at h
      obtain ⟨hle, h⟩ := bif_s h
      have hle : args.length ≤ F.ntmps := Nat.le_of_ble_eq_true hle
      -- both ends alike
      have fin : ∀ x τ1 σ1, acode (ccode P F.ntmps c) call fuel (init args 0 .leaf) σ = some (x, τ1, σ1) → (x = .normal ∨ x = .ret) → aresV τ1 σ1 (F.results.toList.map (cres P F.ntmps)) = some (v, σ') →
          callable P f = true ∧ σ.nxt ≤ σ'.nxt ∧ Does P f args σ v σ' := fun x τ1 σ1 hx hxx hres => by
        have hσ : σ' = σ1 := by
          unfold aresV at hres
          split at hres
          · exact (some_inj2 hres).2.symm
          · exact (some_inj2 hres).2.symm
          · cases hres
        subst hσ
        refine ⟨hcall, acode_grows hC.grows fuel _ _ _ _ _ _ hx, fun M w args' fr hH hargs => ?_⟩
        have hE := init_rel hn hle hargs
        refine calls_of_wp hF hc (wp_mono (code_sound hC hn hmix fuel c M _ _ σ w x τ1 σ' hx hH hE fr) ?_)
        rintro e a1 w1 ⟨rfl, M1, e1, e2, e3⟩
        obtain ⟨_, v', h1, h2⟩ := aresV_run (P := P) (fn := F) e3.rel e2 hres
        rcases hxx with rfl | rfl
        · exact ⟨e1, v', h1, M1, v', rfl, h2, e3⟩
        · exact ⟨e1, v', h1, M1, v', rfl, h2, e3⟩
      split at h
      · rename_i hx; exact fin _ _ _ hx (.inl rfl) h
      · rename_i hx; exact fin _ _ _ hx (.inr rfl) h
      · cases h
    · cases hf
  · cases hf

def HooksOK (P : Program) (hooks : FuncId → Option (Hook H)) : Prop :=
  ∀ f h, hooks f = some h → ∀ args σ v σ', h args σ = some (v, σ') → callable P f = true ∧ σ.nxt ≤ σ'.nxt ∧ Does P f args σ v σ'

theorem acall_sound {hooks : FuncId → Option (Hook H)} (hH : HooksOK P hooks) (hmix : P.follows .mixedOrders = true) {fns : FuncId → Option AFn} (hf : ∀ f fn, fns f = some fn → cfn P f = some fn) (loops : Nat) :
    ∀ k, CallOK P (acall fns hooks loops k)
  | 0 => fun f args σ v σ' h => by cases h
  | k + 1 => fun f args σ v σ' h => by
    have h : (match hooks f with
      | some h => h args σ
      | none => match fns f with
        | some fn => abody (acall fns hooks loops k) loops fn args σ
        | none => none) = some (v, σ') := h
    split at h
    · rename_i hk hhk; exact hH f hk hhk args σ v σ' h
    · split at h
      · rename_i fn hfn; exact abody_sound (acall_sound hH hmix hf loops k) hmix (hf _ _ hfn) h
      · cases h

end Go.Ax

namespace Go.Ax
open Go
variable {H : HeapI}

noncomputable section
def activeN (s : Int) : Bool := decide (s = 1) || (decide (s = 2) || decide (s = 3))
/-- the state that an entry's agent's job bears: the first of its 9 cells -/
def jobState (σ : (St H)) (v : Value) : Option Int :=
  match v with
  | .pointer (some ⟨b, o, none⟩) => match σ.cells b with
    | some cs => match get cs 9 o with | some (.int .i64 s :: _) => some s | _ => none
    | none => none
  | _ => none
def anyActive (σ : (St H)) : List MapEntry → Option Bool
  | [] => some false
  | e :: es => match jobState σ e.val, anyActive σ es with
    | some s, some b => some (activeN s || b)
    | _, _ => none
/-- laid one behind the other, all of them by now; lo: the last one's stamp and one -/
def bornOk (clock : Nat) : List MapEntry → Nat → Bool
  | [], lo => Nat.ble lo clock
  | e :: es, lo => Nat.ble lo e.born && bornOk clock es (e.born + 1)
def hIdle (args : List Value) (σ : (St H)) : (R H) :=
  match args with
  | [.pointer (some ⟨b, o, none⟩)] => match σ.cells b with
    | some cs => match one cs (o + 2) with
      | some (.map (some q)) => match σ.obj q with
        | some (.map es clock) => bif bornOk clock es 0 then (match anyActive σ es with | some a => some (.bool (!a), σ) | none => none) else none
        | _ => none
      | _ => none
    | none => none
  | _ => none
def keysOf : List MapEntry → Option (List Int)
  | [] => some []
  | e :: es => match e.key, keysOf es with | .int .i64 k, some ks => some (k :: ks) | _, _ => none
def insI (x : Int) : List Int → List Int
  | [] => [x]
  | y :: ys => if x ≤ y then x :: y :: ys else y :: insI x ys
def sortI : List Int → List Int
  | [] => []
  | x :: xs => insI x (sortI xs)
/-- growing, and all of them numbers of 64 bits -/
def incI : List Int → Bool
  | [] => true
  | [x] => decide (-9223372036854775808 ≤ x) && decide (x ≤ 9223372036854775807)
  | x :: y :: r => decide (-9223372036854775808 ≤ x) && (decide (x < y) && incI (y :: r))
def intsV : List Int → List Value
  | [] => []
  | x :: xs => .int .i64 x :: intsV xs
/-- a box of its own, from its beginning -/
def boxAt (σ : St H) (b o : Nat) : Bool := match σ.obj b with | some (.cells _ _ z) => Nat.beq z 0 && Nat.beq o 0 | _ => false
def hSorted (keys : Nat) (args : List Value) (σ : (St H)) : (R H) :=
  match args with
  | [.func (.func f) fs cap] => bif Nat.beq f keys && fs.toList.isEmpty then
      match cap.toList with
      | [.pointer (some ⟨b, o, none⟩)] => match σ.cells b with
        | some cs => match one cs o with
          | some (.map (some q)) => match σ.obj q with
            | some (.map es clock) => bif boxAt σ b o && bornOk clock es 0 then
                match keysOf es with
                | some [] => some (.slice none 0 0, σ)
                | some (k :: ks) => bif Nat.ble ks.length 1000 && incI (sortI (k :: ks)) then
                    fresh σ (.cells (intsV (sortI (k :: ks))) false 1) fun b => .slice (some ⟨b, 0, some 0⟩) (ks.length + 1) (ks.length + 1) else none
                | none => none
              else none
            | _ => none
          | _ => none
        | none => none
      | _ => none
    else none
  | _ => none
def hFormat (args : List Value) (σ : (St H)) : (R H) :=
  match args with
  | [.int .i64 (.ofNat n), .int .i64 (.ofNat b)] =>
    bif Nat.beq b 10 && Nat.blt n 100 then
      (bif Nat.blt n 10 then some (.string ⟨⟨[UInt8.ofNat (48 + n)]⟩⟩, σ) else some (.string ⟨⟨[UInt8.ofNat (48 + n / 10), UInt8.ofNat (48 + n % 10)]⟩⟩, σ))
    else none
  | _ => none
def parseD : List UInt8 → Nat → Option Nat
  | [], n => some n
  | c :: cs, n => bif Nat.ble 48 c.toNat && Nat.ble c.toNat 57 then parseD cs (n * 10 + (c.toNat - 48)) else none
def hParse (args : List Value) (σ : (St H)) : (R H) :=
  match args with
  | [.string s, .int .i64 (.ofNat a), .int .i64 (.ofNat b)] => bif Nat.beq a 10 && Nat.beq b 32 && Nat.ble s.data.toList.length 100000 then
      match s.data.toList with
      | [] => none
      | l => match parseD l 0 with | some n => bif Nat.ble n 1000 then some (.tuple #[.int .i64 n, .nilIface], σ) else none | none => none
    else none
  | _ => none
def strs : List Value → Option (List (List UInt8))
  | [] => some []
  | .string s :: vs => match strs vs with | some l => some (s.data.toList :: l) | none => none
  | _ => none
def joinS (sep : List UInt8) : List (List UInt8) → List UInt8
  | [] => []
  | [x] => x
  | x :: xs => x ++ (sep ++ joinS sep xs)
def spot1 (a : Addr) : Bool := match a.spot with | some 1 => true | _ => false
def hJoin (args : List Value) (σ : (St H)) : (R H) :=
  match args with
  | [.slice (some a) n cap, .string sep] => bif spot1 a || !(Nat.ble n cap) then none else match σ.cells a.block with
    | some cs => match get cs n a.off with
      | some vs => match strs vs with
        | some l => bif Nat.ble (joinS sep.data.toList l).length 100000 && Nat.ble n 100000 then some (.string ⟨⟨joinS sep.data.toList l⟩⟩, σ) else none
        | none => none
      | none => none
    | none => none
  | _ => none
def splitS (c : UInt8) : List UInt8 → List (List UInt8)
  | [] => [[]]
  | x :: xs => bif Nat.beq x.toNat c.toNat then [] :: splitS c xs else match splitS c xs with | p :: ps => (x :: p) :: ps | [] => []
def strsV : List (List UInt8) → List Value
  | [] => []
  | x :: xs => .string ⟨⟨x⟩⟩ :: strsV xs
/-- the number of the block of internal/bytealg.MaxLen -/
def maxLenIs (mx : Nat) (σ : (St H)) : Bool :=
  match σ.obj mx with
  | some (.cells (.int .i64 _ :: _) _ _) => Nat.blt mx 256
  | _ => false
def hSplit (mx : Nat) (args : List Value) (σ : (St H)) : (R H) :=
  match args with
  | [.string s, .string sep] => match sep.data.toList with
    | [c] => bif maxLenIs mx σ && Nat.ble s.data.toList.length 100000 then
        fresh σ (.cells (strsV (splitS c s.data.toList)) false 1) fun b => .slice (some ⟨b, 0, none⟩) (splitS c s.data.toList).length (splitS c s.data.toList).length
      else none
    | _ => none
  | _ => none
def cutS (c : UInt8) : List UInt8 → Option (List UInt8 × List UInt8)
  | [] => none
  | x :: xs => bif Nat.beq x.toNat c.toNat then some ([], xs) else match cutS c xs with | some (a, b) => some (x :: a, b) | none => none
def hCut (mx : Nat) (args : List Value) (σ : (St H)) : (R H) :=
  match args with
  | [.string s, .string sep] => match sep.data.toList with
    | [c] => bif maxLenIs mx σ && Nat.ble s.data.toList.length 100000 then
        match cutS c s.data.toList with
        | some (a, b) => some (.tuple #[.string ⟨⟨a⟩⟩, .string ⟨⟨b⟩⟩, .bool true], σ)
        | none => some (.tuple #[.string s, .string ⟨#[]⟩, .bool false], σ)
      else none
    | _ => none
  | _ => none
def bitLenF : Nat → Nat → Nat
  | 0, _ => 0
  | f + 1, n => bif Nat.beq n 0 then 0 else bitLenF f (n / 2) + 1
def hLen (args : List Value) (σ : (St H)) : (R H) :=
  match args with
  | [.int .u64 (.ofNat n)] => bif Nat.blt n 18446744073709551616 then some (.int .i64 (bitLenF 64 n), σ) else none
  | _ => none
end
end Go.Ax

namespace Go.Ax
open Go
variable {H : HeapI}

/-- what a walk of the function gives -/
def IdleSpec (P : Program) (f : FuncId) : Prop := ∀ (B O Bm clock : Nat) (es : Array MapEntry) (w : World) (A : MapEntry → Bool),
    w.cell? ⟨B, O + 2, none⟩ = some (.map (some Bm)) → w.heap[Bm]? = some (.map es clock) → (∀ x ∈ es.toList, x.born < clock) → (es.toList.map (·.born)).Nodup →
    (∀ x ∈ es.toList, ∃ Bj Oj s rest, x.val = .pointer (some ⟨Bj, Oj, none⟩) ∧ Bj < w.heap.size ∧ rest.length = 8 ∧ A x = activeN s ∧
      ∀ j v, (Value.int .i64 s :: rest)[j]? = some v → w.cell? ((⟨Bj, Oj, none⟩ : Addr).add j) = some v) →
    Calls P f #[.pointer (some ⟨B, O, none⟩)] w fun e w' => e = .returned (.bool (!(es.toList.any A))) ∧ RowKit.Below w.heap.size w w'

theorem bornOk_spec {clock : Nat} : ∀ {es : List MapEntry} {lo : Nat}, bornOk clock es lo = true → lo ≤ clock ∧ (∀ x ∈ es, lo ≤ x.born ∧ x.born < clock) ∧ (es.map (·.born)).Nodup
  | [], lo, h => ⟨Nat.le_of_ble_eq_true h, fun x hx => (by cases hx), .nil⟩
  | e :: es, lo, h => by
    simp only [bornOk, Bool.and_eq_true] at h
    have h1 := Nat.le_of_ble_eq_true h.1
    obtain ⟨h2, h3, h4⟩ := bornOk_spec h.2
    refine ⟨by omega, fun x hx => ?_, ?_⟩
    · rcases List.mem_cons.1 hx with rfl | hx
      · exact ⟨h1, by omega⟩
      · have := h3 x hx; exact ⟨by omega, this.2⟩
    · rw [List.map_cons, List.nodup_cons]
      refine ⟨fun hm => ?_, h4⟩
      obtain ⟨x, hx, he⟩ := List.mem_map.1 hm
      have := (h3 x hx).1
      omega

/-- what is kept below the world's end goes nowhere -/
theorem goes_below {M : Mp} {σ : (St H)} {w w' : World} (hH : HRel M σ w) (hb : RowKit.Below w.heap.size w w') : Goes M σ w M σ w' := by
  have hlt : ∀ b o B O x, σ.obj b = some o → M b = some (B, O, x) → B < w.heap.size := fun b o B O x h hM => by
    obtain ⟨B', O', x', hM', hr⟩ := hH.at_ b o h
    rw [hM] at hM'; injection hM' with e; injection e with e1 e; subst e1
    exact hr.lt
  refine ⟨Mp.le_refl M, fun _ h => absurd rfl h, Nat.le_refl _, ⟨fun b o h => ?_, hH.apart⟩, fun _ h => .inl h, fun B hB _ => hb.block B hB, hb.size, hb.tape, hb.os, hb.output, fun _ o h => .inl ⟨o, h, rfl⟩⟩
  obtain ⟨B, O, x, hM, hr⟩ := hH.at_ b o h
  exact ⟨B, O, x, hM, hr.keep (Mp.le_refl M) (hb.block B (hlt b o B O x h hM))⟩

def stateOf (w : World) (v : Value) : Int :=
  match v with
  | .pointer (some a) => match w.cell? a with | some (.int _ s) => s | _ => 0
  | _ => 0

variable {M : Mp} {σ : (St H)} {w : World}

/-- one entry's job, there -/
theorem job_rel (hH : HRel M σ w) {v v' : Value} {s : Int} (h : jobState σ v = some s) (hr : VRel M v v') :
    ∃ Bj Oj rest, v' = .pointer (some ⟨Bj, Oj, none⟩) ∧ Bj < w.heap.size ∧ rest.length = 8 ∧ stateOf w v' = s ∧
      ∀ j u, (Value.int .i64 s :: rest)[j]? = some u → w.cell? ((⟨Bj, Oj, none⟩ : Addr).add j) = some u := by
  unfold jobState at h
  split at h
  · rename_i b o
    split at h
    · rename_i cs hcs
      split at h
      · rename_i s' l hg
        injection h with h; subst h
        obtain ⟨_, B, O, x, hM, hv'⟩ := hr.ptr_inv
        obtain ⟨ro, z, ho⟩ := cells_obj hcs
        obtain ⟨B', O', x', hM', hor⟩ := hH.at_ _ _ ho
        rw [hM] at hM'; injection hM' with e; injection e with e1 e; injection e with e2 e3; subst e1; subst e2; subst e3
        have hBlt := hor.lt
        cases hor with
        | @cells _ _ _ c _ _ hb hcells _ _ =>
          obtain ⟨hl1, hl2⟩ := get_some _ _ _ _ hg
          have hll : (Value.int .i64 s' :: l).length = 9 := by rw [hl2]; simp; omega
          have hat : ∀ j u, (Value.int .i64 s' :: l)[j]? = some u → ∃ u', c[O + (o + j)]? = some u' ∧ VRel M u u' := fun j u hj => by
            refine hcells (o + j) u ?_
            rw [hl2] at hj
            simp only [List.getElem?_take, List.getElem?_drop] at hj
            split at hj
            · exact hj
            · cases hj
          have hcc : ∀ j, j < 9 → c[O + (o + j)]? = some (c.getD (O + (o + j)) undef) := fun j hj => by
            obtain ⟨u', hu', _⟩ := hat j _ (List.getElem?_eq_getElem (by rw [hll]; exact hj))
            simp [Array.getD_eq_getD_getElem?, hu']
          obtain ⟨u0, hu0, hr0⟩ := hat 0 (.int .i64 s') rfl
          rw [hr0.int_inv] at hu0
          refine ⟨B, O + o, (List.range 8).map fun j => c.getD (O + (o + (j + 1))) undef, hv', hBlt, by simp, ?_, fun j u hj => ?_⟩
          · rw [hv']
            have : w.cell? ⟨B, O + o, none⟩ = some (.int .i64 s') := by unfold World.cell?; rw [hb]; exact hu0
            simp [stateOf, this]
          · rw [Addr.add_lit]
            unfold World.cell?
            rw [hb]
            show c[O + o + j]? = some u
            cases j with
            | zero => simp at hj; subst hj; exact hu0
            | succ j =>
              simp only [List.getElem?_cons_succ, List.getElem?_map, List.getElem?_range] at hj
              by_cases hj8 : j < 8
              · rw [List.getElem?_range hj8] at hj
                simp at hj
                rw [← hj, show O + o + (j + 1) = O + (o + (j + 1)) by omega]
                have := hcc (j + 1) (by omega)
                rwa [Array.getD_eq_getD_getElem?] at this
              · rw [List.getElem?_eq_none (by simp; omega)] at hj; cases hj
      · cases h
    · cases h
  · cases h

theorem any_rel (hH : HRel M σ w) : ∀ {es es' : List MapEntry} {b : Bool}, anyActive σ es = some b → All2 (ERelE M) es es' →
    es'.any (fun x => activeN (stateOf w x.val)) = b ∧ ∀ x ∈ es', ∃ Bj Oj s rest, x.val = .pointer (some ⟨Bj, Oj, none⟩) ∧ Bj < w.heap.size ∧ rest.length = 8 ∧ activeN (stateOf w x.val) = activeN s ∧
      ∀ j v, (Value.int .i64 s :: rest)[j]? = some v → w.cell? ((⟨Bj, Oj, none⟩ : Addr).add j) = some v
  | [], _, b, h, .nil => by injection h with h; subst h; exact ⟨rfl, fun x hx => (by cases hx)⟩
  | e :: es, _, b, h, .cons (b := e') (bs := es') hr ht => by
    simp only [anyActive] at h
    cases h1 : jobState σ e.val with
    | none => rw [h1] at h; cases h
    | some s =>
      cases h2 : anyActive σ es with
      | none => rw [h1, h2] at h; cases h
      | some b' =>
        rw [h1, h2] at h
        injection h with h; subst h
        obtain ⟨i1, i2⟩ := any_rel hH h2 ht
        obtain ⟨Bj, Oj, rest, j1, j2, j3, j4, j5⟩ := job_rel hH h1 hr.val
        refine ⟨by simp [List.any_cons, j4, i1], fun x hx => ?_⟩
        rcases List.mem_cons.1 hx with rfl | hx
        · exact ⟨Bj, Oj, s, rest, j1, j2, j3, by rw [j4], j5⟩
        · exact i2 x hx

theorem borns_rel : ∀ {es es' : List MapEntry}, All2 (ERelE M) es es' → es'.map (·.born) = es.map (·.born)
  | _, _, .nil => rfl
  | _, _, .cons hr ht => by simp [hr.born, borns_rel ht]

theorem hIdle_ok {P : Program} {f : FuncId} (hS : IdleSpec P f) (hf : callable P f = true) {args : List Value} {σ σ' : (St H)} {v : Value} (h : hIdle args σ = some (v, σ')) :
    callable P f = true ∧ σ.nxt ≤ σ'.nxt ∧ Does P f args σ v σ' := by
  unfold hIdle at h
  split at h
  · rename_i b o
    split at h
    · rename_i cs hcs
      split at h
      · rename_i q hone
        split at h
        · rename_i es clock hobj
          obtain ⟨hbo, h⟩ := bif_s h
          split at h
          · rename_i a ha
            obtain ⟨rfl, rfl⟩ := some_inj2 h
            refine ⟨hf, Nat.le_refl _, fun M w args' fr hH hargs => ?_⟩
            obtain ⟨hlt, hborn, hnd⟩ := bornOk_spec hbo
            generalize hal : args'.toList = al at hargs
            cases hargs with | @cons _ v1 _ _ ha1 ht => cases ht with | nil =>
            have hargs' : args' = #[v1] := by apply Array.toList_inj.1; rw [hal]
            subst hargs'
            obtain ⟨_, B, O, x, hM, hv'⟩ := ha1.ptr_inv
            rw [hv']
            obtain ⟨ro, z, ho⟩ := cells_obj hcs
            obtain ⟨B', O', x', hM', hor⟩ := hH.at_ _ _ ho
            rw [hM] at hM'; injection hM' with e; injection e with e1 e; injection e with e2 e3; subst e1; subst e2; subst e3
            cases hor with
            | @cells _ _ _ c _ _ hb hcells _ _ =>
              rw [one_eq] at hone
              obtain ⟨m', hm', hrm⟩ := hcells _ _ hone
              obtain ⟨Bm, Om, xm, hMm, hmv⟩ := hrm.map_inv
              obtain ⟨B2, O2, x2, hM2, hor2⟩ := hH.at_ _ _ hobj
              rw [hMm] at hM2; injection hM2 with e; injection e with e1 e; subst e1
              cases hor2 with
              | @map _ _ es' hb2 hrel =>
                obtain ⟨h1, h2⟩ := any_rel hH ha hrel
                have hborns : es'.toList.map (·.born) = es.map (·.born) := borns_rel hrel
                refine (hS B (O + o) Bm clock es' w (fun x => activeN (stateOf w x.val)) ?_ hb2 (fun x hx => ?_) (by rw [hborns]; exact hnd) h2).mono ?_
                · unfold World.cell?
                  rw [hb]
                  show c[O + o + 2]? = _
                  rw [Nat.add_assoc, hm', hmv]
                · have : x.born ∈ es.map (·.born) := by rw [← hborns]; exact List.mem_map.2 ⟨x, hx, rfl⟩
                  obtain ⟨y, hy, he⟩ := List.mem_map.1 this
                  rw [← he]; exact (hborn y hy).2
                · rintro e w' ⟨rfl, hbl⟩
                  exact ⟨M, _, rfl, by rw [h1]; exact .sc rfl, goes_below hH hbl⟩
          · cases h
        · cases h
      · cases h
    · cases h
  · cases h

end Go.Ax

namespace Go.Ax
open Go
variable {H : HeapI}

variable {P : Program} {f : FuncId} {args : List Value} {σ σ' : (St H)} {v : Value}

theorem All2.one {M : Mp} {x : Value} {args' : Array Value} (h : All2 (VRel M) [x] args'.toList) : ∃ y, args' = #[y] ∧ VRel M x y := by
  generalize hl : args'.toList = l at h
  cases h with | @cons _ y _ _ h1 h2 => cases h2 with | nil => exact ⟨y, by apply Array.toList_inj.1; rw [hl], h1⟩
theorem All2.two {M : Mp} {x x2 : Value} {args' : Array Value} (h : All2 (VRel M) [x, x2] args'.toList) : ∃ y y2, args' = #[y, y2] ∧ VRel M x y ∧ VRel M x2 y2 := by
  generalize hl : args'.toList = l at h
  cases h with | @cons _ y _ _ h1 h2 => cases h2 with | @cons _ y2 _ _ h3 h4 => cases h4 with | nil => exact ⟨y, y2, by apply Array.toList_inj.1; rw [hl], h1, h3⟩
theorem All2.three {M : Mp} {x x2 x3 : Value} {args' : Array Value} (h : All2 (VRel M) [x, x2, x3] args'.toList) : ∃ y y2 y3, args' = #[y, y2, y3] ∧ VRel M x y ∧ VRel M x2 y2 ∧ VRel M x3 y3 := by
  generalize hl : args'.toList = l at h
  cases h with | @cons _ y _ _ h1 h2 => cases h2 with | @cons _ y2 _ _ h3 h4 => cases h4 with | @cons _ y3 _ _ h5 h6 => cases h6 with | nil => exact ⟨y, y2, y3, by apply Array.toList_inj.1; rw [hl], h1, h3, h5⟩

theorem goes_drewN {M : Mp} {w : World} (hH : HRel M σ w) (k : Nat) : Goes M σ w M σ (w.drewN k) := Goes.draw hH _

/-! bits.Len -/
def LenSpec (P : Program) (f : FuncId) : Prop := ∀ (x : Int) (w : World), 0 ≤ x → x ≤ 18446744073709551615 →
  Calls P f #[.int .u64 x] w fun e w' => e = .returned (.int .i64 (Lib.bitLen x.toNat)) ∧ w' = w

theorem bitLenF_eq : ∀ (k n : Nat), bitLenF k n = Lib.bitLenAux k n
  | 0, _ => rfl
  | k + 1, n => by
    unfold bitLenF Lib.bitLenAux
    by_cases h : n = 0
    · subst h; rfl
    · rw [beq_no h, if_neg h, cond_false, bitLenF_eq k, Nat.add_comm]

theorem hLen_ok (hS : LenSpec P f) (hf : callable P f = true) (h : hLen args σ = some (v, σ')) : callable P f = true ∧ σ.nxt ≤ σ'.nxt ∧ Does P f args σ v σ' := by
  unfold hLen at h
  split at h
  · rename_i n
    obtain ⟨hb, h⟩ := bif_s h
    obtain ⟨rfl, rfl⟩ := some_inj2 h
    refine ⟨hf, Nat.le_refl _, fun M w args' fr hH hargs => ?_⟩
    obtain ⟨y, rfl, h1⟩ := hargs.one
    rw [h1.int_inv]
    have hb : n + 1 ≤ 18446744073709551616 := Nat.le_of_ble_eq_true hb
    refine (hS (Int.ofNat n) w (Int.natCast_nonneg n) (by have : (Int.ofNat n) = (n : Int) := rfl; omega)).mono ?_
    rintro e w' ⟨rfl, rfl⟩
    exact ⟨M, _, rfl, by rw [bitLenF_eq]; exact .sc rfl, Goes.refl hH⟩
  · cases h

/-! the cell of internal/bytealg.MaxLen -/
theorem maxLen_cell {mx : Nat} {M : Mp} {w : World} (h : maxLenIs mx σ = true) (hB : Base M) (hH : HRel M σ w) : ∃ m, w.cell? ⟨mx, 0, none⟩ = some (.int .i64 m) := by
  unfold maxLenIs at h
  split at h
  · rename_i m _ _ _ ho
    have hlt : mx < 256 := Nat.le_of_ble_eq_true h
    obtain ⟨B, O, x, hM, hor⟩ := hH.at_ _ _ ho
    rw [hB mx hlt] at hM; injection hM with e; injection e with e1 e; injection e with e2 e3; subst e1; subst e2
    cases hor with
    | cells hb hcells _ _ hz0 =>
      obtain ⟨u, hu, hr⟩ := hcells 0 _ rfl
      exact ⟨m, by unfold World.cell?; rw [hb]; show _ = _; rw [← hr.int_inv]; simpa using hu⟩
  · cases h

theorem index_hit (c : UInt8) (l : List UInt8) : Lib.index (c :: l) [c] = 0 := by simp [Lib.index, List.isPrefixOf]
theorem index_next {b c : UInt8} (h : b ≠ c) (l : List UInt8) : Lib.index (b :: l) [c] = if Lib.index l [c] == -1 then -1 else Lib.index l [c] + 1 := by
  have : (c == b) = false := beq_false_of_ne (Ne.symm h)
  simp [Lib.index, List.isPrefixOf, this]

theorem byte_beq {b c : UInt8} : Nat.beq b.toNat c.toNat = true ↔ b = c := by
  constructor
  · intro h; exact UInt8.toNat_inj.1 (Nat.eq_of_beq_eq_true h)
  · rintro rfl; exact Nat.beq_refl _

/-! strings.Cut -/
def CutSpec (P : Program) (f : FuncId) (g : Nat) : Prop := ∀ (s sep : ByteArray) (m : Int) (w : World), s.size < 4294967281 → w.cell? ⟨g, 0, none⟩ = some (.int .i64 m) →
  Calls P f #[.string s, .string sep] w fun e w' => e = .returned (.tuple #[.string ⟨(Lib.cut s.data.toList sep.data.toList).1.toArray⟩, .string ⟨(Lib.cut s.data.toList sep.data.toList).2.1.toArray⟩, .bool (Lib.cut s.data.toList sep.data.toList).2.2]) ∧ ∃ n, w' = w.drewN n

theorem cutS_eq (c : UInt8) : ∀ l : List UInt8, match cutS c l with
    | none => Lib.index l [c] = -1
    | some (a, b) => ∃ i : Nat, Lib.index l [c] = i ∧ a = l.take i ∧ b = l.drop (i + 1)
  | [] => by show Lib.index [] [c] = -1; rfl
  | x :: xs => by
    unfold cutS
    cases hb : Nat.beq x.toNat c.toNat with
    | true =>
      have := byte_beq.1 hb
      subst this
      exact ⟨0, index_hit x xs, rfl, rfl⟩
    | false =>
      have hne : x ≠ c := fun e => by rw [byte_beq.2 e] at hb; cases hb
      have ih := cutS_eq c xs
      simp only [cond_false]
      cases hc : cutS c xs with
      | none =>
        rw [hc] at ih
        show Lib.index (x :: xs) [c] = -1
        rw [index_next hne, ih]; rfl
      | some p =>
        obtain ⟨a, b⟩ := p
        rw [hc] at ih
        obtain ⟨i, h1, h2, h3⟩ := ih
        refine ⟨i + 1, ?_, by rw [h2]; rfl, by rw [h3]; rfl⟩
        rw [index_next hne, h1]
        have : ((i : Int) == -1) = false := by apply beq_false_of_ne; omega
        rw [this]; rfl

theorem cut_of_cutS (c : UInt8) (l : List UInt8) : Lib.cut l [c] = match cutS c l with | some (a, b) => (a, b, true) | none => (l, [], false) := by
  have h := cutS_eq c l
  unfold Lib.cut
  cases hc : cutS c l with
  | none => rw [hc] at h; rw [h]; rfl
  | some p =>
    obtain ⟨a, b⟩ := p
    rw [hc] at h
    obtain ⟨i, h1, h2, h3⟩ := h
    rw [h1, if_pos (by omega), h2, h3]
    simp

theorem hCut_ok {g : Nat} (hS : CutSpec P f g) (hf : callable P f = true) (h : hCut g args σ = some (v, σ')) : callable P f = true ∧ σ.nxt ≤ σ'.nxt ∧ Does P f args σ v σ' := by
  unfold hCut at h
  split at h
  · rename_i s sep
    split at h
    · rename_i c hsep
      obtain ⟨hb, h⟩ := bif_s h
      simp only [Bool.and_eq_true] at hb
      have hle := Nat.le_of_ble_eq_true hb.2
      have hres : σ' = σ ∧ v = .tuple #[.string ⟨(Lib.cut s.data.toList [c]).1.toArray⟩, .string ⟨(Lib.cut s.data.toList [c]).2.1.toArray⟩, .bool (Lib.cut s.data.toList [c]).2.2] := by
        rw [cut_of_cutS]
        split at h
        · rename_i hc; obtain ⟨rfl, rfl⟩ := some_inj2 h; exact ⟨rfl, by simp only [hc]⟩
        · rename_i hc; obtain ⟨rfl, rfl⟩ := some_inj2 h; exact ⟨rfl, by simp only [hc]⟩
      obtain ⟨rfl, rfl⟩ := hres
      refine ⟨hf, Nat.le_refl _, fun M w args' fr hH hargs => ?_⟩
      obtain ⟨y, y2, rfl, h1, h2⟩ := hargs.two
      rw [h1.string_inv, h2.string_inv]
      obtain ⟨m, hm⟩ := maxLen_cell hb.1 fr.2 hH
      refine (hS s sep m w (by have := Lib.size_eq s
                               omega) hm).mono ?_
      rintro e w' ⟨rfl, n, rfl⟩
      exact ⟨M, _, rfl, by rw [hsep]; exact .tuple (.cons (.sc rfl) (.cons (.sc rfl) (.cons (.sc rfl) .nil))), goes_drewN hH n⟩
    · cases h
  · cases h

/-! strings.Split -/
def SplitSpec (P : Program) (f : FuncId) (g : Nat) : Prop := ∃ t : TypeId, ∀ (s sep : ByteArray) (m : Int) (w : World), s.size < 4294967281 → w.cell? ⟨g, 0, none⟩ = some (.int .i64 m) → 1 ≤ sep.size →
  Calls P f #[.string s, .string sep] w fun e w' =>
    e = .returned (.slice (some ⟨w.heap.size, 0, none⟩) (Lib.countB s sep + 1) (Lib.countB s sep + 1)) ∧ w' = w.alloc (.cells ((Lib.splitB sep 0 (Lib.countB s sep) s).map Value.string).toArray t)

theorem splitS_eq (c : UInt8) : ∀ (l : List UInt8), Lib.splitK [c] 0 (l.count c) l = splitS c l ∧ splitS c l ≠ []
  | [] => ⟨rfl, by simp [splitS]⟩
  | x :: xs => by
    obtain ⟨ih, ihn⟩ := splitS_eq c xs
    unfold splitS
    cases hb : Nat.beq x.toNat c.toNat with
    | true =>
      have := byte_beq.1 hb
      subst this
      rw [List.count_cons_self]
      refine ⟨?_, by simp⟩
      simp only [cond_true, Lib.splitK, index_hit]
      rw [if_neg (by decide)]
      simp [ih]
    | false =>
      have hne : x ≠ c := fun e => by rw [byte_beq.2 e] at hb; cases hb
      simp only [cond_false]
      have hcount : (x :: xs).count c = xs.count c := List.count_cons_of_ne hne
      rw [hcount]
      cases hs : splitS c xs with
      | nil => exact absurd hs ihn
      | cons p ps =>
        refine ⟨?_, by simp⟩
        rw [hs] at ih
        cases hk : xs.count c with
        | zero =>
          rw [hk] at ih
          simp only [Lib.splitK] at ih ⊢
          injection ih with i1 i2
          rw [← i1, ← i2]
        | succ k =>
          rw [hk] at ih
          simp only [Lib.splitK] at ih ⊢
          rw [index_next hne]
          by_cases hi : Lib.index xs [c] == -1
          · rw [if_pos hi] at ih
            rw [if_pos hi, if_pos (by rfl)]
            injection ih with i1 i2
            rw [← i1, ← i2]
          · rw [if_neg hi] at ih
            rw [if_neg hi]
            have hge := Lib.index_ge xs [c]
            have hne1 : Lib.index xs [c] ≠ -1 := by simpa using hi
            rw [if_neg (by simp; omega)]
            injection ih with i1 i2
            have ht : (Lib.index xs [c] + 1).toNat = (Lib.index xs [c]).toNat + 1 := by omega
            rw [← i1, ← i2, ht]
            simp only [Nat.add_zero, List.length_singleton, List.take_succ_cons, List.drop_succ_cons]

theorem strsV_eq : ∀ l : List (List UInt8), strsV l = l.map fun x => Value.string ⟨x.toArray⟩
  | [] => rfl
  | x :: xs => by simp [strsV, strsV_eq xs]

theorem strsV_of {l : List ByteArray} : l.map Value.string = strsV (l.map (·.data.toList)) := by
  rw [strsV_eq, List.map_map]
  congr 1

theorem strs_rel (M : Mp) : ∀ l : List ByteArray, All2 (VRel M) (l.map Value.string) (l.map Value.string)
  | [] => .nil
  | _ :: l => .cons (.sc rfl) (strs_rel M l)

theorem hSplit_ok {g : Nat} (hS : SplitSpec P f g) (hf : callable P f = true) (h : hSplit g args σ = some (v, σ')) : callable P f = true ∧ σ.nxt ≤ σ'.nxt ∧ Does P f args σ v σ' := by
  obtain ⟨t, hS⟩ := hS
  unfold hSplit at h
  split at h
  · rename_i s sep
    split at h
    · rename_i c hsep
      obtain ⟨hb, h⟩ := bif_s h
      simp only [Bool.and_eq_true] at hb
      have hle := Nat.le_of_ble_eq_true hb.2
      have hnx : σ.nxt ≤ σ'.nxt := fresh_le h rfl
      refine ⟨hf, hnx, fun M w args' fr hH hargs => ?_⟩
      obtain ⟨y, y2, rfl, h1, h2⟩ := hargs.two
      rw [h1.string_inv, h2.string_inv]
      obtain ⟨m, hm⟩ := maxLen_cell hb.1 fr.2 hH
      have hsz : sep.size = 1 := by have := Lib.size_eq sep
                                    rw [this, hsep]; rfl
      refine (hS s sep m w (by have := Lib.size_eq s
                               omega) hm (by omega)).mono ?_
      rintro e w' ⟨rfl, rfl⟩
      have hpieces : (Lib.splitB sep 0 (Lib.countB s sep) s).map (·.data.toList) = splitS c s.data.toList := by
        rw [Lib.splitB_data, hsep]
        show Lib.splitK [c] 0 (Lib.count s.data.toList sep.data.toList) _ = _
        rw [hsep, Lib.count_one]
        exact (splitS_eq c _).1
      have hlen : (splitS c s.data.toList).length = Lib.countB s sep + 1 := by
        rw [← hpieces, List.length_map]
        exact Lib.splitB_all sep (by omega) 0 _ s rfl
      have hcells : strsV (splitS c s.data.toList) = (Lib.splitB sep 0 (Lib.countB s sep) s).map Value.string := by rw [← hpieces, strsV_of]
      rw [hcells] at h
      obtain ⟨M', hv, hM, hg⟩ := fresh_goes hH h fr (.cells ((Lib.splitB sep 0 (Lib.countB s sep) s).map Value.string).toArray t) 0
        (cells_new (c := ((Lib.splitB sep 0 (Lib.countB s sep) s).map Value.string).toArray) (strs_rel M _) false 1 0 rfl)
      refine ⟨M', _, rfl, ?_, hg⟩
      rw [hv, hlen]
      have := VRel.slE (o := 0) (l := Lib.countB s sep + 1) (c := Lib.countB s sep + 1) hM
      simpa using this
    · cases h
  · cases h

end Go.Ax

namespace Go.Ax
open Go
variable {H : HeapI}

variable {P : Program} {f : FuncId} {args : List Value} {σ σ' : (St H)} {v : Value}

/-! strconv.FormatInt, base 10, below 100 -/
def FormatSpec (P : Program) (f : FuncId) : Prop := ∀ (i : Nat) (w : World), i < 100 →
  Calls P f #[.int .i64 i, .int .i64 10] w fun e w' => e = .returned (.string ⟨(Lib.decDigits i).toArray⟩) ∧ w' = w

theorem hFormat_ok (hS : FormatSpec P f) (hf : callable P f = true) (h : hFormat args σ = some (v, σ')) : callable P f = true ∧ σ.nxt ≤ σ'.nxt ∧ Does P f args σ v σ' := by
  unfold hFormat at h
  split at h
  · rename_i n b
    have hb := (bif_s h).1
    replace h := (bif_s h).2
    simp only [Bool.and_eq_true] at hb
    have hb10 := Nat.eq_of_beq_eq_true hb.1
    subst hb10
    have hn : n < 100 := Nat.le_of_ble_eq_true hb.2
    have hres : v = .string ⟨(Lib.decDigits n).toArray⟩ ∧ σ' = σ := by
      cases hl : Nat.blt n 10 with
      | true =>
        rw [hl] at h
        obtain ⟨rfl, rfl⟩ := some_inj2 h
        have : n < 10 := Nat.le_of_ble_eq_true hl
        rw [Lib.decDigits, dif_pos this]
        exact ⟨rfl, rfl⟩
      | false =>
        rw [hl] at h
        obtain ⟨rfl, rfl⟩ := some_inj2 h
        have h1 : ¬ n < 10 := fun hh => by
          have : Nat.blt n 10 = true := Nat.ble_eq_true_of_le hh
          rw [this] at hl; cases hl
        have h2 : n / 10 < 10 := by omega
        rw [Lib.decDigits, dif_neg h1, Lib.decDigits, dif_pos h2]
        exact ⟨rfl, rfl⟩
    obtain ⟨rfl, rfl⟩ := hres
    refine ⟨hf, Nat.le_refl _, fun M w args' fr hH hargs => ?_⟩
    obtain ⟨y, y2, rfl, h1, h2⟩ := hargs.two
    rw [h1.int_inv, h2.int_inv]
    refine (hS n w hn).mono ?_
    rintro e w' ⟨rfl, rfl⟩
    exact ⟨M, _, rfl, .sc rfl, Goes.refl hH⟩
  · cases h

/-! strconv.ParseInt, base 10, 32 bits -/
def ParseSpec (P : Program) (f : FuncId) : Prop := ∀ (s : ByteArray) (x : Int) (w : World), Lib.parseIntB 32 s.data.toList = .ok x → s.size ≤ 100000 →
  Calls P f #[.string s, .int .i64 10, .int .i64 32] w fun e w' => e = .returned (.tuple #[.int .i64 x, .nilIface]) ∧ RowKit.Below w.heap.size w w'

theorem parseD_some : ∀ (l : List UInt8) (acc n : Nat), parseD l acc = some n → acc ≤ n ∧ (n ≤ 1000 → Lib.parseUintM (2 ^ 32 - 1) acc l = .ok n)
  | [], acc, n, h => by
    have h : some acc = some n := h
    injection h with h; subst h; exact ⟨Nat.le_refl _, fun _ => rfl⟩
  | c :: cs, acc, n, h => by
    unfold parseD at h
    obtain ⟨hb, h⟩ := bif_s h
    simp only [Bool.and_eq_true] at hb
    have h1 := Nat.le_of_ble_eq_true hb.1
    have h2 := Nat.le_of_ble_eq_true hb.2
    obtain ⟨h3, h4⟩ := parseD_some cs _ n h
    refine ⟨by omega, fun hn => ?_⟩
    unfold Lib.parseUintM
    rw [if_pos ⟨h1, h2⟩, if_neg (by omega), if_neg (by omega)]
    exact h4 hn

theorem parseD_len : ∀ (l : List UInt8) (acc n : Nat), parseD l acc = some n → ∀ c ∈ l, 48 ≤ c.toNat ∧ c.toNat ≤ 57
  | [], _, _, _, c, hc => by cases hc
  | x :: xs, acc, n, h, c, hc => by
    unfold parseD at h
    obtain ⟨hb, h⟩ := bif_s h
    simp only [Bool.and_eq_true] at hb
    rcases List.mem_cons.1 hc with rfl | hc
    · exact ⟨Nat.le_of_ble_eq_true hb.1, Nat.le_of_ble_eq_true hb.2⟩
    · exact parseD_len xs _ _ h c hc

theorem hParse_ok (hS : ParseSpec P f) (hf : callable P f = true) (h : hParse args σ = some (v, σ')) : callable P f = true ∧ σ.nxt ≤ σ'.nxt ∧ Does P f args σ v σ' := by
  unfold hParse at h
  split at h
  · rename_i s a b
    have hb := (bif_s h).1
    replace h := (bif_s h).2
    simp only [Bool.and_eq_true] at hb
    have ha := Nat.eq_of_beq_eq_true hb.1.1
    have hb32 := Nat.eq_of_beq_eq_true hb.1.2
    have hsz := Nat.le_of_ble_eq_true hb.2
    subst ha; subst hb32
    split at h
    · cases h
    · rename_i hne
      split at h
      · rename_i n hp
        obtain ⟨hn, h⟩ := bif_s h
        have hn := Nat.le_of_ble_eq_true hn
        obtain ⟨rfl, rfl⟩ := some_inj2 h
        refine ⟨hf, Nat.le_refl _, fun M w args' fr hH hargs => ?_⟩
        obtain ⟨y, y2, y3, rfl, h1, h2, h3⟩ := hargs.three
        rw [h1.string_inv, h2.int_inv, h3.int_inv]
        have hpar : Lib.parseIntB 32 s.data.toList = .ok n := by
          have hdig := parseD_len _ _ _ hp
          obtain ⟨_, hm⟩ := parseD_some _ _ _ hp
          have hm := hm hn
          cases hl : s.data.toList with
          | nil => exact absurd hl (by simpa using hne)
          | cons c r =>
            rw [hl] at hdig hm
            have hc := hdig c (List.mem_cons_self ..)
            have hc1 : ¬ c.toNat = 43 := by omega
            have hc2 : ¬ c.toNat = 45 := by omega
            have hu : Lib.parseUintB 32 (c :: r) = .ok n := by
              unfold Lib.parseUintB; rw [if_neg (List.cons_ne_nil _ _)]; exact hm
            have h3 : ¬ 2 ^ (32 - 1) ≤ n := by have : (2 : Nat) ^ (32 - 1) = 2147483648 := rfl
                                               omega
            unfold Lib.parseIntB
            simp only [hc1, hc2, or_self, if_false]
            rw [hu]
            simp only [h3, not_false_eq_true, true_and, false_and, if_false]
        refine (hS s n w hpar (by have := Lib.size_eq s; omega)).mono ?_
        rintro e w' ⟨rfl, hbl⟩
        exact ⟨M, _, rfl, .tuple (.cons (.sc rfl) (.cons (.sc rfl) .nil)), goes_below hH hbl⟩
      · cases h
  · cases h

/-! strings.Join -/
def JoinSpec (P : Program) (f : FuncId) : Prop := ∀ (bk o c : Nat) (xs : List ByteArray) (sep : ByteArray) (w : World),
  (∀ (j : Nat) x, xs[j]? = some x → w.cell? ⟨bk, o + j, none⟩ = some (.string x)) → bk < w.heap.size → xs.length ≤ 140737488355328 → xs.length ≤ c →
  (Lib.join (xs.map (·.data.toList)) sep.data.toList).length ≤ 140737488355328 →
  Calls P f #[.slice (some ⟨bk, o, none⟩) xs.length c, .string sep] w fun e w' => e = .returned (.string ⟨(Lib.join (xs.map (·.data.toList)) sep.data.toList).toArray⟩) ∧ RowKit.Below w.heap.size w w'

theorem joinS_cons (sep x : List UInt8) : ∀ r, joinS sep (x :: r) = x ++ Lib.joinTail sep r
  | [] => by simp [joinS, Lib.joinTail]
  | y :: r => by
    show x ++ (sep ++ joinS sep (y :: r)) = _
    rw [joinS_cons sep y r]
    simp [Lib.joinTail]

theorem joinS_eq (sep : List UInt8) : ∀ l, joinS sep l = Lib.join l sep
  | [] => rfl
  | x :: r => by rw [joinS_cons, Lib.join_cons]

theorem strs_some {M : Mp} : ∀ {vs : List Value} {l : List (List UInt8)} {vs' : List Value}, strs vs = some l → All2 (VRel M) vs vs' → ∃ xs : List ByteArray, vs' = xs.map Value.string ∧ l = xs.map (·.data.toList)
  | [], l, _, h, .nil => by
    have h : some [] = some l := h
    injection h with h; subst h; exact ⟨[], rfl, rfl⟩
  | v :: vs, l, _, h, .cons (b := v') hr ht => by
    cases v with
    | string s =>
      have h : (match strs vs with | some l => some (s.data.toList :: l) | none => none) = some l := h
      cases hs : strs vs with
      | none => rw [hs] at h; cases h
      | some l' =>
        rw [hs] at h
        injection h with h; subst h
        obtain ⟨xs, h1, h2⟩ := strs_some hs ht
        exact ⟨s :: xs, by rw [hr.string_inv, h1]; rfl, by rw [h2]; rfl⟩
    | _ => cases h

theorem hJoin_ok (hS : JoinSpec P f) (hf : callable P f = true) (h : hJoin args σ = some (v, σ')) : callable P f = true ∧ σ.nxt ≤ σ'.nxt ∧ Does P f args σ v σ' := by
  unfold hJoin at h
  split at h
  · rename_i ad n cap sep
    cases hsp : (spot1 ad || !(Nat.ble n cap)) with
    | true => rw [hsp] at h; cases h
    | false =>
      rw [hsp] at h
      simp only [cond_false] at h
      simp only [Bool.or_eq_false_iff, Bool.not_eq_false'] at hsp
      have hnc := Nat.le_of_ble_eq_true hsp.2
      split at h
      · rename_i cs hcs
        split at h
        · rename_i vs hg
          split at h
          · rename_i l hl
            obtain ⟨hb, h⟩ := bif_s h
            simp only [Bool.and_eq_true] at hb
            have hj := Nat.le_of_ble_eq_true hb.1
            have hn := Nat.le_of_ble_eq_true hb.2
            obtain ⟨rfl, rfl⟩ := some_inj2 h
            refine ⟨hf, Nat.le_refl _, fun M w args' fr hH hargs => ?_⟩
            obtain ⟨y, y2, rfl, h1, h2⟩ := hargs.two
            rw [h2.string_inv]
            have hsl : ∃ B O x c', M ad.block = some (B, O, x) ∧ y = .slice (some ⟨B, O + ad.off, none⟩) n c' ∧ n ≤ c' := by
              cases h1 with
              | sc h => simp [cloS] at h
              | slE h => exact ⟨_, _, _, _, h, rfl, hnc⟩
              | slL h => exact ⟨_, _, _, _, h, rfl, by omega⟩
              | slU => simp [spot1] at hsp
            obtain ⟨B, O, x, c', hM, rfl, hnc'⟩ := hsl
            obtain ⟨ro, z, ho⟩ := cells_obj hcs
            obtain ⟨B', O', x', hM', hor⟩ := hH.at_ _ _ ho
            rw [hM] at hM'; injection hM' with e; injection e with e1 e; injection e with e2 e3; subst e1; subst e2; subst e3
            have hBlt := hor.lt
            cases hor with
            | @cells _ _ _ c _ _ hb2 hcells _ _ =>
              obtain ⟨hl1, hl2⟩ := get_some _ _ _ _ hg
              have hvl : vs.length = n := by rw [hl2]; simp; omega
              have hat : ∀ j u, vs[j]? = some u → ∃ u', c[O + (ad.off + j)]? = some u' ∧ VRel M u u' := fun j u hju => by
                refine hcells (ad.off + j) u ?_
                rw [hl2] at hju
                simp only [List.getElem?_take, List.getElem?_drop] at hju
                split at hju
                · exact hju
                · cases hju
              have hall : All2 (VRel M) vs ((List.range n).map fun j => c.getD (O + (ad.off + j)) undef) := by
                refine All2.of_get (by simp [hvl]) fun j u hju => ?_
                obtain ⟨u', hu', hr⟩ := hat j u hju
                have hjn : j < n := by rw [← hvl]; exact (List.getElem?_eq_some_iff.1 hju).1
                refine ⟨u', ?_, hr⟩
                rw [List.getElem?_map, List.getElem?_range hjn]
                simp [Array.getD_eq_getD_getElem?, hu']
              obtain ⟨xs, hx1, hx2⟩ := strs_some hl hall
              have hxl : xs.length = n := by have := congrArg List.length hx1; simpa using this.symm
              have hjoin : joinS sep.data.toList l = Lib.join (xs.map (·.data.toList)) sep.data.toList := by rw [joinS_eq, hx2]
              have hcell : ∀ (j : Nat) x, xs[j]? = some x → w.cell? ⟨B, O + ad.off + j, none⟩ = some (.string x) := fun j x hx => by
                have hjn : j < n := by rw [← hxl]; exact (List.getElem?_eq_some_iff.1 hx).1
                have h5 : (xs.map Value.string)[j]? = some (.string x) := by rw [List.getElem?_map, hx]; rfl
                rw [← hx1, List.getElem?_map, List.getElem?_range hjn] at h5
                simp only [Option.map_some, Option.some.injEq] at h5
                obtain ⟨u', hu', _⟩ := hat j _ (List.getElem?_eq_getElem (by rw [hvl]; exact hjn))
                unfold World.cell?
                rw [hb2]
                show c[O + ad.off + j]? = _
                rw [Nat.add_assoc, hu']
                rw [Array.getD_eq_getD_getElem?, hu'] at h5
                rw [← h5]; rfl
              rw [← hxl]
              refine (hS B (O + ad.off) c' xs sep w hcell hBlt (by omega) (by omega) (by rw [← hjoin]; omega)).mono ?_
              rintro e w' ⟨rfl, hbl⟩
              exact ⟨M, _, rfl, by rw [hjoin]; exact .sc rfl, goes_below hH hbl⟩
          · cases h
        · cases h
      · cases h
  · cases h

end Go.Ax

namespace Go.Ax
open Go
variable {H : HeapI}

variable {P : Program} {f : FuncId} {args : List Value} {σ σ' : (St H)} {v : Value}

def SortedSpec (P : Program) (f g : FuncId) : Prop := ∀ (bp bm clock : Nat) (es : Array MapEntry) (w : World) (ks : List Int),
  w.cell? ⟨bp, 0, none⟩ = some (.map (some bm)) → w.heap[bm]? = some (.map es clock) → es.toList.map (·.key) = ks.map (Value.int .i64) → ks.Nodup →
  (∀ k ∈ ks, -9223372036854775808 ≤ k ∧ k ≤ 9223372036854775807) → (∀ x ∈ es.toList, x.born < clock) → (es.toList.map (·.born)).Nodup → ks.length ≤ 1001 →
  Calls P f #[.func (.func g) #[] #[.pointer (some ⟨bp, 0, none⟩)]] w fun e w' => RowKit.Below w.heap.size w w' ∧ ∃ v, e = .returned v ∧
    ((ks = [] ∧ v = .slice none 0 0) ∨ ks ≠ [] ∧ ∃ (gb cap : Nat) (cur : Array Value) (t : TypeId) (ss : List Int), v = .slice (some ⟨gb, 0, none⟩) ks.length cap ∧ w.heap.size ≤ gb ∧ w'.heap[gb]? = some (.cells cur t (0, 0)) ∧ ks.length ≤ cap ∧ cur.size = cap ∧
      ss.Perm ks ∧ ss.Pairwise (· ≤ ·) ∧ cur.toList.take ks.length = ss.map (Value.int .i64))

theorem insI_perm (x : Int) : ∀ l, (insI x l).Perm (x :: l)
  | [] => List.Perm.refl _
  | y :: ys => by
    unfold insI
    split
    · exact List.Perm.refl _
    · exact ((insI_perm x ys).cons y).trans (List.Perm.swap x y ys)

theorem sortI_perm : ∀ l, (sortI l).Perm l
  | [] => List.Perm.refl _
  | x :: xs => (insI_perm x (sortI xs)).trans ((sortI_perm xs).cons x)

theorem insI_sorted (x : Int) : ∀ {l : List Int}, l.Pairwise (· ≤ ·) → (insI x l).Pairwise (· ≤ ·)
  | [], _ => by simp [insI]
  | y :: ys, h => by
    unfold insI
    have h1 := (List.pairwise_cons.1 h).1
    have h2 := (List.pairwise_cons.1 h).2
    split
    · rename_i hxy
      refine List.pairwise_cons.2 ⟨fun z hz => ?_, h⟩
      rcases List.mem_cons.1 hz with rfl | hz
      · exact hxy
      · have := h1 z hz; omega
    · rename_i hxy
      refine List.pairwise_cons.2 ⟨fun z hz => ?_, insI_sorted x h2⟩
      rcases List.mem_cons.1 ((insI_perm x ys).mem_iff.1 hz) with rfl | hz
      · omega
      · exact h1 z hz

theorem sortI_sorted : ∀ l, (sortI l).Pairwise (· ≤ ·)
  | [] => .nil
  | x :: xs => insI_sorted x (sortI_sorted xs)

theorem sorted_unique {a b : List Int} (h : a.Perm b) (ha : a.Pairwise (· ≤ ·)) (hb : b.Pairwise (· ≤ ·)) : a = b :=
  List.Perm.eq_of_pairwise (fun x y _ _ h1 h2 => by omega) ha hb h

theorem incI_spec : ∀ {l : List Int}, incI l = true → l.Pairwise (· < ·) ∧ ∀ k ∈ l, -9223372036854775808 ≤ k ∧ k ≤ 9223372036854775807
  | [], _ => ⟨.nil, fun k hk => (by cases hk)⟩
  | [x], h => by
    simp only [incI, Bool.and_eq_true, decide_eq_true_eq] at h
    exact ⟨by simp, fun k hk => by rw [List.mem_singleton.1 hk]; exact h⟩
  | x :: y :: r, h => by
    simp only [incI, Bool.and_eq_true, decide_eq_true_eq] at h
    obtain ⟨h1, h2, h3⟩ := h
    obtain ⟨h4, h5⟩ := incI_spec h3
    have hy := (List.pairwise_cons.1 h4).1
    refine ⟨List.pairwise_cons.2 ⟨fun z hz => ?_, h4⟩, fun k hk => ?_⟩
    · rcases List.mem_cons.1 hz with rfl | hz
      · exact h2
      · have := hy z hz; omega
    · rcases List.mem_cons.1 hk with rfl | hk
      · exact ⟨h1, by have := (h5 y (List.mem_cons_self ..)).2; omega⟩
      · exact h5 k hk

theorem keysOf_some : ∀ {es : List MapEntry} {ks : List Int}, keysOf es = some ks → es.map (·.key) = ks.map (Value.int .i64)
  | [], ks, h => by
    have h : some [] = some ks := h
    injection h with h; subst h; rfl
  | e :: es, ks, h => by
    unfold keysOf at h
    split at h
    · rename_i k ks' hk hks
      injection h with h; subst h
      simp [hk, keysOf_some hks]
    · cases h

theorem keys_rel {M : Mp} : ∀ {es es' : List MapEntry}, All2 (ERelE M) es es' → es'.map (·.key) = es.map (·.key)
  | _, _, .nil => rfl
  | _, _, .cons hr ht => by simp [hr.key, keys_rel ht]

theorem intsV_eq : ∀ l : List Int, intsV l = l.map (Value.int .i64)
  | [] => rfl
  | x :: xs => by simp [intsV, intsV_eq xs]

theorem ints_rel (M : Mp) : ∀ l : List Int, All2 (VRel M) (l.map (Value.int .i64)) (l.map (Value.int .i64))
  | [] => .nil
  | _ :: l => .cons (.sc rfl) (ints_rel M l)

/-- a new block, in a world that has grown -/
theorem fresh_below {M : Mp} {w w' : World} {o : AObj} {fv : Nat → Value} {gb x : Nat} (hH : HRel M σ w) (h : fresh σ o fv = some (v, σ')) (fr : Fresh M σ σ') (hb : RowKit.Below w.heap.size w w')
    (hg : w.heap.size ≤ gb) (how : o.writable = true) (hr : ∀ M' : Mp, M.le M' → ObjRel M' gb 0 x w' o) :
    ∃ M', v = fv σ.nxt ∧ M' σ.nxt = some (gb, 0, x) ∧ Goes M σ w M' σ' w' := by
  obtain ⟨h8, rfl, _⟩ := fresh_inv h
  have hv : v = fv σ.nxt := by
    unfold fresh at h
    cases hlt : H.ok σ.nxt with
    | false => rw [hlt] at h; cases h
    | true => rw [hlt] at h; exact (some_inj2 h).1.symm
  have hnone : M σ.nxt = none := fr.1 σ.nxt (Nat.le_refl _) (Nat.lt_succ_self _)
  let M' : Mp := fun b => if b = σ.nxt then some (gb, 0, x) else M b
  have hle : M.le M' := fun b t hb => by
    have : b ≠ σ.nxt := fun e => by rw [e, hnone] at hb; cases hb
    simp [M', this, hb]
  have hM : M' σ.nxt = some (gb, 0, x) := by simp [M']
  have hself : St.obj (H := H) ⟨H.set σ.heap σ.nxt (some o), σ.nxt + 1⟩ σ.nxt = some o := St.obj_mk_same _ _ _ _ h8
  have hobj : ∀ b, b ≠ σ.nxt → St.obj (H := H) ⟨H.set σ.heap σ.nxt (some o), σ.nxt + 1⟩ b = σ.obj b := fun b hb => St.obj_mk_ne _ _ _ _ _ h8 hb
  have hlt : ∀ b o B O x, σ.obj b = some o → M b = some (B, O, x) → B < w.heap.size := fun b o B O x h hM => by
    obtain ⟨B', O', x', hM', hr⟩ := hH.at_ b o h
    rw [hM] at hM'; injection hM' with e; injection e with e1 e; subst e1
    exact hr.lt
  refine ⟨M', hv, hM, hle, fun b hb => ?_, Nat.le_succ _, ⟨fun b o' h => ?_, fun b b' o1 o2 B O x1 B' O' x2 h1 h2 hw hne hm hm' => ?_⟩, ?_, fun B hB _ => hb.block B hB, hb.size, hb.tape, hb.os, hb.output, fun b o' h => ?_⟩
  · by_cases e : b = σ.nxt
    · subst e; exact ⟨Nat.le_refl _, Nat.lt_succ_self _⟩
    · simp [M', e] at hb
  · by_cases e : b = σ.nxt
    · subst e; rw [hself] at h; injection h with h; subst h
      exact ⟨_, _, _, hM, hr M' hle⟩
    · rw [hobj b e] at h
      obtain ⟨B, O, y, hm, ho⟩ := hH.at_ b o' h
      exact ⟨B, O, y, hle _ _ hm, ho.keep hle (hb.block B ho.lt)⟩
  · by_cases e : b = σ.nxt
    · subst e
      rw [hM] at hm; injection hm with hm; injection hm with hm1 _; subst hm1
      have e' : b' ≠ σ.nxt := fun e => hne e.symm
      rw [hobj b' e'] at h2
      simp only [M', e', if_false] at hm'
      have := hlt _ _ _ _ _ h2 hm'
      omega
    · rw [hobj b e] at h1
      simp only [M', e, if_false] at hm
      by_cases e' : b' = σ.nxt
      · subst e'
        rw [hM] at hm'; injection hm' with hm'; injection hm' with hm1 _; subst hm1
        have := hlt _ _ _ _ _ h1 hm
        omega
      · rw [hobj b' e'] at h2
        simp only [M', e', if_false] at hm'
        exact hH.apart _ _ _ _ _ _ _ _ _ _ h1 h2 hw hne hm hm'
  · rintro B ⟨b, o', O, y, h1, hw, hm⟩
    by_cases e : b = σ.nxt
    · subst e
      rw [hM] at hm; injection hm with hm; injection hm with hm1 _
      exact .inr (by omega)
    · rw [hobj b e] at h1
      simp only [M', e, if_false] at hm
      exact .inl ⟨b, o', O, y, h1, hw, hm⟩
  · by_cases e : b = σ.nxt
    · subst e; rw [hself] at h; injection h with h; subst h
      exact .inr ⟨how, Nat.le_refl _, Nat.lt_succ_self _⟩
    · rw [hobj b e] at h; exact .inl ⟨o', h, rfl⟩

theorem hSorted_ok {g : FuncId} (hS : SortedSpec P f g) (hf : callable P f = true) (h : hSorted g args σ = some (v, σ')) : callable P f = true ∧ σ.nxt ≤ σ'.nxt ∧ Does P f args σ v σ' := by
  unfold hSorted at h
  split at h
  · rename_i f0 fs cap
    have hb := (bif_s h).1
    replace h := (bif_s h).2
    simp only [Bool.and_eq_true] at hb
    have hfg := Nat.eq_of_beq_eq_true hb.1
    have hfs : fs.toList = [] := by simpa using hb.2
    split at h
    · rename_i b o hcap
      split at h
      · rename_i cs hcs
        split at h
        · rename_i q hone
          split at h
          · rename_i es clock hobj
            have hbb0 := (bif_s h).1
            simp only [Bool.and_eq_true] at hbb0
            have hbo := hbb0.2
            have hbx := hbb0.1
            replace h := (bif_s h).2
            obtain ⟨_, hborn, hnd⟩ := bornOk_spec hbo
            -- the walk, at whatever keys
            have walk : ∀ ks, keysOf es = some ks → incI (sortI ks) = true → ks.length ≤ 1001 → ∀ (M : Mp) (w : World) (args' : Array Value), HRel M σ w → All2 (VRel M) [.func (.func f0) fs cap] args'.toList →
                Calls P f args' w fun e w' => RowKit.Below w.heap.size w w' ∧ ∃ v, e = .returned v ∧
                  ((ks = [] ∧ v = .slice none 0 0) ∨ ks ≠ [] ∧ ∃ (gb cap : Nat) (cur : Array Value) (t : TypeId), v = .slice (some ⟨gb, 0, none⟩) ks.length cap ∧ w.heap.size ≤ gb ∧ w'.heap[gb]? = some (.cells cur t (0, 0)) ∧ ks.length ≤ cap ∧ cur.size = cap ∧
                    cur.toList.take ks.length = (sortI ks).map (Value.int .i64)) := fun ks hks hinc hlen M w args' hH hargs => by
              obtain ⟨y, rfl, h1⟩ := hargs.one
              obtain ⟨g2, fs', cap', e1, rfl, hfr, hcr⟩ := h1.func_inv
              injection e1 with e1; subst e1
              have hfs' : fs' = #[] := by
                rw [hfs] at hfr
                apply Array.toList_inj.1
                generalize fs'.toList = l at hfr
                cases hfr; rfl
              rw [hcap] at hcr
              obtain ⟨y2, rfl, hy2⟩ := hcr.one
              subst hfs'
              obtain ⟨_, B, O, x, hM, rfl⟩ := hy2.ptr_inv
              obtain ⟨ro, z, ho⟩ := cells_obj hcs
              obtain ⟨B', O', x', hM', hor⟩ := hH.at_ _ _ ho
              rw [hM] at hM'; injection hM' with e; injection e with e1 e; injection e with e2 e3; subst e1; subst e2; subst e3
              cases hor with
              | @cells _ _ _ c _ _ hbb hcells _ _ hz0 =>
                unfold boxAt at hbx
                rw [ho] at hbx
                simp only [Bool.and_eq_true] at hbx
                have hO := hz0 (Nat.eq_of_beq_eq_true hbx.1)
                have ho0 := Nat.eq_of_beq_eq_true hbx.2
                subst hO; subst ho0
                rw [one_eq] at hone
                obtain ⟨m', hm', hrm⟩ := hcells _ _ hone
                obtain ⟨Bm, Om, xm, hMm, rfl⟩ := hrm.map_inv
                obtain ⟨B2, O2, x2, hM2, hor2⟩ := hH.at_ _ _ hobj
                rw [hMm] at hM2; injection hM2 with e; injection e with e1 e; subst e1
                cases hor2 with
                | @map _ _ es' hb2 hrel =>
                  obtain ⟨hpw, hrg⟩ := incI_spec hinc
                  have hperm := sortI_perm ks
                  have hborns : es'.toList.map (·.born) = es.map (·.born) := borns_rel hrel
                  rw [hfg]
                  refine (hS B Bm clock es' w ks ?_ hb2 (by rw [keys_rel hrel, keysOf_some hks]) ?_ (fun k hk => hrg k (hperm.mem_iff.2 hk)) (fun y hy => ?_) (by rw [hborns]; exact hnd) hlen).mono ?_
                  · unfold World.cell?
                    rw [hbb]; exact hm'
                  · exact hperm.nodup_iff.1 (hpw.imp fun h => by omega)
                  · have : y.born ∈ es.map (·.born) := by rw [← hborns]; exact List.mem_map.2 ⟨y, hy, rfl⟩
                    obtain ⟨y2, hy2, he⟩ := List.mem_map.1 this
                    rw [← he]; exact (hborn y2 hy2).2
                  · rintro e w' ⟨hbl, v, rfl, hv⟩
                    refine ⟨hbl, v, rfl, ?_⟩
                    rcases hv with hv | ⟨hv0, gb, cap, cur, t, ss, h1, h2, h3, h4, h5, h6, h7, h8⟩
                    · exact .inl hv
                    · exact .inr ⟨hv0, gb, cap, cur, t, h1, h2, h3, h4, h5, by rw [h8, sorted_unique (h6.trans hperm.symm) h7 (sortI_sorted ks)]⟩
            split at h
            · rename_i hks
              obtain ⟨rfl, rfl⟩ := some_inj2 h
              refine ⟨hf, Nat.le_refl _, fun M w args' fr hH hargs => (walk [] hks rfl (by simp) M w args' hH hargs).mono ?_⟩
              rintro e w' ⟨hbl, v, rfl, hv⟩
              rcases hv with ⟨_, rfl⟩ | ⟨hv0, gb, cap, cur, t, h1, h2, h3, h4, h5, h6⟩
              · exact ⟨M, _, rfl, .sc rfl, goes_below hH hbl⟩
              · exact absurd rfl hv0
            · rename_i k ks hks
              have hk := (bif_s h).1
              replace h := (bif_s h).2
              simp only [Bool.and_eq_true] at hk
              have hlen := Nat.le_of_ble_eq_true hk.1
              refine ⟨hf, fresh_le h rfl, fun M w args' fr hH hargs => (walk (k :: ks) hks hk.2 (by simp; omega) M w args' hH hargs).mono ?_⟩
              rintro e w' ⟨hbl, v', rfl, hv⟩
              rcases hv with ⟨he, _⟩ | ⟨_, gb, cap', cur, t, rfl, h2, h3, h4, h5, h6⟩
              · cases he
              · rw [intsV_eq] at h
                have hsl : (sortI (k :: ks)).length = ks.length + 1 := by rw [(sortI_perm _).length_eq]; rfl
                have hkl : (k :: ks).length = ks.length + 1 := rfl
                rw [hkl] at h4 h6
                obtain ⟨M', hv, hM, hg⟩ := fresh_below (gb := gb) (x := cap' - (ks.length + 1)) hH h fr hbl h2 rfl fun M' _ =>
                  .cells (c := cur) (e := t) (fr := (0, 0)) h3 (fun i u hi => by
                    have hlt : i < ks.length + 1 := by
                      have := (List.getElem?_eq_some_iff.1 hi).1
                      simpa [hsl] using this
                    rw [← h6, List.getElem?_take, if_pos hlt] at hi
                    have hclo : ∃ n, u = .int .i64 n := by
                      have : ((sortI (k :: ks)).map (Value.int .i64))[i]? = some u := by rw [← h6, List.getElem?_take, if_pos hlt]; exact hi
                      rw [List.getElem?_map] at this
                      cases hq : (sortI (k :: ks))[i]? with
                      | none => rw [hq] at this; cases this
                      | some n => rw [hq] at this; exact ⟨n, by injection this with this; exact this.symm⟩
                    obtain ⟨n, rfl⟩ := hclo
                    exact ⟨_, by rw [Nat.zero_add]; simpa using hi, .sc rfl⟩) (by simp [hsl]; omega) (fun _ => rfl) (fun _ => rfl)
                refine ⟨M', _, rfl, ?_, hg⟩
                rw [hv]
                have := VRel.slL (o := 0) (l := ks.length + 1) (c := ks.length + 1) hM
                rw [show ks.length + 1 + (cap' - (ks.length + 1)) = cap' by omega] at this
                exact this
            · cases h
          · cases h
        · cases h
      · cases h
    · cases h
  · cases h

end Go.Ax

namespace Go.Ax
open Go
variable {H : HeapI}

/-- where they stand in a program -/
structure Nums where
  idle : Nat
  len : Nat
  sorted : Nat
  keys : Nat
  join : Nat
  split : Nat
  cut : Nat
  format : Nat
  parse : Nat
  mx : Nat

noncomputable def hooksOf (N : Nums) (f : FuncId) : Option (Hook H) :=
  bif Nat.beq f N.idle then some hIdle else
  bif Nat.beq f N.len then some hLen else
  bif Nat.beq f N.sorted then some (hSorted N.keys) else
  bif Nat.beq f N.join then some hJoin else
  bif Nat.beq f N.split then some (hSplit N.mx) else
  bif Nat.beq f N.cut then some (hCut N.mx) else
  bif Nat.beq f N.format then some hFormat else
  bif Nat.beq f N.parse then some hParse else none

/-- what the walks and the shelf give -/
structure LibOK (P : Program) (N : Nums) : Prop where
  idle : IdleSpec P N.idle ∧ callable P N.idle = true
  len : LenSpec P N.len ∧ callable P N.len = true
  sorted : SortedSpec P N.sorted N.keys ∧ callable P N.sorted = true
  join : JoinSpec P N.join ∧ callable P N.join = true
  split : SplitSpec P N.split N.mx ∧ callable P N.split = true
  cut : CutSpec P N.cut N.mx ∧ callable P N.cut = true
  format : FormatSpec P N.format ∧ callable P N.format = true
  parse : ParseSpec P N.parse ∧ callable P N.parse = true

theorem bif_some {α : Type} {b : Bool} {x : α} {y : Option α} {r : α} (h : (bif b then some x else y) = some r) : (b = true ∧ r = x) ∨ (b = false ∧ y = some r) := by
  cases b
  · exact .inr ⟨rfl, h⟩
  · injection h with h; exact .inl ⟨rfl, h.symm⟩

theorem hooksOf_ok {P : Program} {N : Nums} (L : LibOK P N) : HooksOK P (hooksOf (H := H) N) := by
  intro f h hf args σ v σ' hr
  unfold hooksOf at hf
  rcases bif_some hf with ⟨hb, rfl⟩ | ⟨_, hf⟩
  · have e := Nat.eq_of_beq_eq_true hb; subst e; exact hIdle_ok L.idle.1 L.idle.2 hr
  rcases bif_some hf with ⟨hb, rfl⟩ | ⟨_, hf⟩
  · have e := Nat.eq_of_beq_eq_true hb; subst e; exact hLen_ok L.len.1 L.len.2 hr
  rcases bif_some hf with ⟨hb, rfl⟩ | ⟨_, hf⟩
  · have e := Nat.eq_of_beq_eq_true hb; subst e; exact hSorted_ok L.sorted.1 L.sorted.2 hr
  rcases bif_some hf with ⟨hb, rfl⟩ | ⟨_, hf⟩
  · have e := Nat.eq_of_beq_eq_true hb; subst e; exact hJoin_ok L.join.1 L.join.2 hr
  rcases bif_some hf with ⟨hb, rfl⟩ | ⟨_, hf⟩
  · have e := Nat.eq_of_beq_eq_true hb; subst e; exact hSplit_ok L.split.1 L.split.2 hr
  rcases bif_some hf with ⟨hb, rfl⟩ | ⟨_, hf⟩
  · have e := Nat.eq_of_beq_eq_true hb; subst e; exact hCut_ok L.cut.1 L.cut.2 hr
  rcases bif_some hf with ⟨hb, rfl⟩ | ⟨_, hf⟩
  · have e := Nat.eq_of_beq_eq_true hb; subst e; exact hFormat_ok L.format.1 L.format.2 hr
  rcases bif_some hf with ⟨hb, rfl⟩ | ⟨_, hf⟩
  · have e := Nat.eq_of_beq_eq_true hb; subst e; exact hParse_ok L.parse.1 L.parse.2 hr
  · cases hf

/-- a closed run of a law-like function, as a step of its own: true, and the heap as it was -/
noncomputable def closed (mx : Nat) (args : List Value) (σ : (St H)) : (R H) :=
  match args with
  | [] => bif maxLenIs mx σ then some (.bool true, σ) else none
  | _ => none

/-- the heap that holds that one cell -/
noncomputable def bare (mx : Nat) (m : Int) : St trieH := ⟨trieH.set (.leaf : Tr AObj) mx (some (.cells [.int .i64 m] true 1)), 256⟩

def isTrue (r : (R H)) : Bool := match r with | some (.bool b, _) => b | _ => false

theorem closed_ok {P : Program} {mx : Nat} {f : FuncId} {call : CallF trieH} (hC : CallOK P call) (hrun : ∀ m, isTrue (call f [] (bare mx m)) = true) {args : List Value} {σ σ' : (St H)} {v : Value}
    (h : closed mx args σ = some (v, σ')) : callable P f = true ∧ σ.nxt ≤ σ'.nxt ∧ Does P f args σ v σ' := by
  unfold closed at h
  split at h
  · have hmx := (bif_s h).1
    replace h := (bif_s h).2
    obtain ⟨rfl, rfl⟩ := some_inj2 h
    have run : ∀ m, ∃ σb, call f [] (bare mx m) = some (.bool true, σb) := fun m => by
      have := hrun m
      unfold isTrue at this
      split at this
      · rename_i b σb hr
        subst this
        exact ⟨σb, hr⟩
      · cases this
    obtain ⟨σ0, h0⟩ := run 0
    refine ⟨(hC _ _ _ _ _ h0).1, Nat.le_refl _, fun M w args' fr hH hargs => ?_⟩
    -- the cell, and the run from a heap that holds it alone
    unfold maxLenIs at hmx
    split at hmx
    · rename_i m r1 ro z ho
      have hlt : mx < 256 := Nat.le_of_ble_eq_true hmx
      obtain ⟨σb, hb⟩ := run m
      obtain ⟨_, hle, hd⟩ := hC _ _ _ _ _ hb
      let M0 : Mp := fun b => if b < 256 then M b else none
      have hM0 : ∀ b, b < 256 → M0 b = M b := fun b hb => by simp [M0, hb]
      have hobj : ∀ b o, (bare mx m).obj b = some o → b = mx ∧ o = .cells [.int .i64 m] true 1 := fun b o hbo => by
        by_cases e : b = mx
        · subst e
          have : (bare b m).obj b = some (.cells [.int .i64 m] true 1) := St.obj_mk_same _ _ _ _ (Nat.ble_eq_true_of_le (by omega))
          rw [this] at hbo; injection hbo with hbo; exact ⟨rfl, hbo.symm⟩
        · have : (bare mx m).obj b = Tr.get 13 .leaf b := St.obj_mk_ne (H := trieH) _ _ _ _ _ (Nat.ble_eq_true_of_le (by omega)) e
          rw [this, Tr.get_leaf] at hbo; cases hbo
      have hH0 : HRel M0 (bare mx m) w := by
        refine ⟨fun b o hbo => ?_, fun b b' o o' B O x B' O' x' h1 h2 hw hne _ _ => ?_⟩
        · obtain ⟨rfl, rfl⟩ := hobj b o hbo
          obtain ⟨B, O, x, hM, hor⟩ := hH.at_ _ _ ho
          rw [fr.2 b hlt] at hM; injection hM with e; injection e with e1 e; injection e with e2 e3; subst e1; subst e2; subst e3
          refine ⟨b, 0, 0, by rw [hM0 b hlt]; exact fr.2 b hlt, ?_⟩
          cases hor with
          | cells hb hcells hfit hfr hz0 =>
            refine .cells hb (fun i u hi => ?_) ?_ (fun e => by cases e) (fun _ => rfl)
            · cases i with
              | zero =>
                simp at hi; subst hi
                obtain ⟨u', hu', hr⟩ := hcells 0 _ rfl
                exact ⟨u', hu', by rw [hr.int_inv]; exact .sc rfl⟩
              | succ i => simp at hi
            · simp at hfit ⊢; omega
        · obtain ⟨rfl, rfl⟩ := hobj b o h1
          cases hw
      have fr0 : Fresh M0 (bare mx m) σb := ⟨fun b hb1 _ => by have hb1 : 256 ≤ b := hb1; simp [M0]; omega, fun g hg => by rw [hM0 g hg]; exact fr.2 g hg⟩
      refine (hd M0 w args' fr0 hH0 (by generalize args'.toList = l at hargs ⊢; cases hargs; exact .nil)).mono ?_
      rintro e w' ⟨M', v', rfl, hv, hg⟩
      rw [hv.bool_inv]
      have hfp : ∀ B, ¬ FP M0 (bare mx m) B := fun B ⟨b, o, _, _, h1, h2, _⟩ => by obtain ⟨_, rfl⟩ := hobj b o h1; cases h2
      exact ⟨M, _, rfl, .sc rfl, goes_below hH ⟨hg.os, hg.tape, hg.output, hg.size, fun B hB => hg.keep B hB (hfp B)⟩⟩
    · cases hmx
  · cases h

end Go.Ax

