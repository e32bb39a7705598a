/- Maps, appends and channels: the steps of the abstract machine are steps of the model. -/
import Derived.Test.YtmpaepfagmofoaaGreatDoorAxB
import Derived.MapKept
import Derived.Laws.AppendOwn
import Derived.Conc.LoneSelect
import Derived.Laws.Externs
import Derived.KernelRfl
set_option linter.all false
namespace Go.Ax
open Go
variable {H : HeapI}

variable {P : Program} {n : Nat} {M : Mp} {σ σ' : (St H)} {w : World} {a : Act} {τ : Env} {o : Oper} {v : Value}

/-- a call of a built-in function that gives a value -/
theorem builtin_exec {b : Builtin} {args : Array Operand} {ts : Array TypeId} (ho : o.op = .call { callee := .builtin b, args, argTypes := ts }) :
    execOp a.eval o = builtin b ts o.type (args.map fun | .const _ => true | _ => false) (args.map a.eval) := by
  simp only [execOp, ho, resolve]
  rfl

theorem map1 {args : Array Operand} {x' : Od} (h : cods n args.toList = some [x']) : ∃ x, args = #[x] ∧ cod n x = some x' := by
  cases hl : args.toList with
  | nil => rw [hl] at h; cases h
  | cons x xs =>
    rw [hl] at h
    simp only [cods, Option.bind_eq_some_iff] at h
    obtain ⟨y, hy, ys, hys, e⟩ := h
    injection e with e; injection e with e1 e2; subst e1; subst e2
    cases xs with
    | nil => exact ⟨x, by rw [← Array.toArray_toList (xs := args), hl], hy⟩
    | cons z zs =>
      simp only [cods, Option.bind_eq_some_iff] at hys
      obtain ⟨_, _, _, _, e⟩ := hys; cases e

theorem map2 {args : Array Operand} {x' y' : Od} (h : cods n args.toList = some [x', y']) : ∃ x y, args = #[x, y] ∧ cod n x = some x' ∧ cod n y = some y' := by
  cases hl : args.toList with
  | nil => rw [hl] at h; cases h
  | cons x xs =>
    rw [hl] at h
    simp only [cods, Option.bind_eq_some_iff] at h
    obtain ⟨y, hy, ys, hys, e⟩ := h
    injection e with e; injection e with e1 e2; subst e1; subst e2
    obtain ⟨z, hz, hz2⟩ := map1 (n := n) (args := xs.toArray) (x' := y') (by simpa using hys)
    have : xs = [z] := by have := congrArg Array.toList hz; simpa using this
    subst this
    exact ⟨x, z, by rw [← Array.toArray_toList (xs := args), hl], hy, hz2⟩

theorem goInt_rel (M : Mp) (i : Int) : VRel M (.int .i64 i) (goInt i) := .sc rfl

theorem head_get {ts : Array TypeId} {t : TypeId} {rest : List TypeId} (hts : ts.toList = t :: rest) : ts[0]? = some t := by rw [← Array.getElem?_toList, hts]; rfl

theorem map_at {r : Option Nat} {es : List MapEntry} {m' : Value} (hm : σ.map (.map r) = some es) (hr : VRel M (.map r) m') (hH : HRel M σ w) :
    (r = none ∧ m' = .map none ∧ es = []) ∨ ∃ q B es' clock, r = some q ∧ m' = .map (some B) ∧ σ.obj q = some (.map es clock) ∧ w.heap[B]? = some (.map es' clock) ∧ All2 (ERelE M) es es'.toList := by
  cases r with
  | none => injection hm with hm; subst hm; exact .inl ⟨rfl, hr.nilm_inv, rfl⟩
  | some q =>
    simp only [St.map] at hm
    split at hm
    · rename_i es0 clock hobj
      injection hm with hm; subst hm
      obtain ⟨B, O, x, hM, hax⟩ := hr.map_inv
      obtain ⟨B', O', x', hM', hor⟩ := hH.at_ _ _ hobj
      rw [hM] at hM'; injection hM' with hM'; injection hM' with h1 h2; subst h1
      cases hor with
      | map hb hes => exact .inr ⟨q, _, _, clock, rfl, hax, hobj, hb, hes⟩
    · cases hm

theorem ax_getObj_map {r : Nat} {es : Array MapEntry} {c : Nat} (hb : w.heap[r]? = some (.map es c)) : (getObj r).run P w = .ok (.map es c) w := by
  simp [getObj, Sem.run, hb]

theorem ax_getObj_chan {r : Nat} {c : Nat} {b : Array Value} {s q : Nat} (hb : w.heap[r]? = some (.chan c b false s q false)) : (getObj r).run P w = .ok (.chan c b false s q false) w := by
  simp [getObj, Sem.run, hb]

section lens
variable {args : Array Operand} {ts : Array TypeId} {t : TypeId} {rest : List TypeId} {x' : Od} {call : (CallF H)}
  (ho : o.op = .call { callee := .builtin .len, args, argTypes := ts }) (hts : ts.toList = t :: rest) (hx : cods n args.toList = some [x']) (hH : HRel M σ w) (hE : ERel n M τ a.tmps)
include ho hts hx hH hE

theorem s_len_str (hd : P.underlying t = some .string) (h : opLen .str x' call τ σ = some (v, σ')) : Did P o a w M σ v σ' := by
  obtain ⟨x, rfl, hc⟩ := map1 hx
  have hr := cod_rel hE hc
  unfold opLen at h
  split at h <;> first | (rename_i e _ _; cases e; done) | (rename_i e _; cases e; done) | (cases h; done) | skip
  rename_i s e1
  rw [e1] at hr
  obtain ⟨rfl, rfl⟩ := some_inj2 h
  refine Did.pure hH ?_ (.sc rfl)
  rw [builtin_exec ho]
  simp [builtin, Builtin.len_, head_get hts, hr.string_inv, run_underlying hd, goInt]

theorem s_len_slice {e : TypeId} (hd : P.underlying t = some (.slice e)) (h : opLen .slice x' call τ σ = some (v, σ')) : Did P o a w M σ v σ' := by
  obtain ⟨x, rfl, hc⟩ := map1 hx
  have hr := cod_rel hE hc
  unfold opLen at h
  split at h <;> first | (rename_i e _ _; cases e; done) | (rename_i e _; cases e; done) | (cases h; done) | skip
  rename_i l c _ e1
  rw [e1] at hr
  obtain ⟨rfl, rfl⟩ := some_inj2 h
  obtain ⟨q', c', hax, _⟩ := hr.sl_inv
  refine Did.pure hH ?_ (.sc rfl)
  rw [builtin_exec ho]
  simp [builtin, Builtin.len_, head_get hts, hax, run_underlying hd, goInt]

theorem s_len_map {kt e : TypeId} (hd : P.underlying t = some (.map kt e)) (h : opLen .map x' call τ σ = some (v, σ')) : Did P o a w M σ v σ' := by
  obtain ⟨x, rfl, hc⟩ := map1 hx
  have hr := cod_rel hE hc
  unfold opLen at h
  split at h <;> first | (rename_i e _ _; cases e; done) | (rename_i e _; cases e; done) | (cases h; done) | skip
  rename_i r _ e1
  rw [e1] at hr
  split at h
  · rename_i es hes
    obtain ⟨rfl, rfl⟩ := some_inj2 h
    refine Did.pure hH ?_ (.sc rfl)
    rw [builtin_exec ho]
    rcases map_at hes hr hH with ⟨rfl, hm, rfl⟩ | ⟨q, B, es', clock, rfl, hm, _, hb, hrel⟩
    · simp [builtin, Builtin.len_, head_get hts, hm, run_underlying hd, goInt]
    · have hl := hrel.length
      simp at hl
      simp [builtin, Builtin.len_, head_get hts, hm, run_underlying hd, goInt, ax_getObj_map hb, hl]
  · cases h

theorem s_len_chan {dr : ChanDir} {e : TypeId} (hd : P.underlying t = some (.chan dr e)) (h : opLen .chan x' call τ σ = some (v, σ')) : Did P o a w M σ v σ' := by
  obtain ⟨x, rfl, hc⟩ := map1 hx
  have hr := cod_rel hE hc
  unfold opLen at h
  split at h <;> first | (rename_i e _ _; cases e; done) | (rename_i e _; cases e; done) | (cases h; done) | skip
  · rename_i _ e1
    rw [e1] at hr
    obtain ⟨rfl, rfl⟩ := some_inj2 h
    refine Did.pure hH ?_ (.sc rfl)
    rw [builtin_exec ho]
    simp [builtin, Builtin.len_, head_get hts, hr.nilc_inv, run_underlying hd, goInt]
  · rename_i r _ e1
    rw [e1] at hr
    split at h
    · rename_i hobj
      obtain ⟨rfl, rfl⟩ := some_inj2 h
      refine Did.pure hH ?_ (.sc rfl)
      obtain ⟨B, O, x2, hM, hax⟩ := hr.chan_inv
      obtain ⟨B', O', x3, hM', hor⟩ := hH.at_ _ _ hobj
      rw [hM] at hM'; injection hM' with hM'; injection hM' with h1 h2; subst h1
      cases hor with
      | chan hb hbuf =>
        have hl := hbuf.length
        simp at hl
        rw [builtin_exec ho]
        simp [builtin, Builtin.len_, head_get hts, hax, run_underlying hd, goInt, ax_getObj_chan hb, hl]
    · cases h
end lens

theorem s_lenc {args : Array Operand} {ts : Array TypeId} {t : TypeId} {rest : List TypeId} {x' : Od} {N : Nat} {call : (CallF H)}
    (ho : o.op = .call { callee := .builtin .len, args, argTypes := ts }) (hts : ts.toList = t :: rest) (hx : cods n args.toList = some [x']) (hH : HRel M σ w)
    (hd : (∃ e, P.underlying t = some (.array N e)) ∨ ∃ b e, P.underlying t = some (.pointer b) ∧ P.underlying b = some (.array N e)) (h : opVal (.const (goInt N)) call τ σ = some (v, σ')) : Did P o a w M σ v σ' := by
  obtain ⟨x, rfl, hc⟩ := map1 hx
  obtain ⟨rfl, rfl⟩ := some_inj2 h
  refine Did.pure hH (v' := goInt N) ?_ (.sc rfl)
  rw [builtin_exec ho]
  rcases hd with ⟨e, hd⟩ | ⟨b, e, hd, hb⟩
  · simp [builtin, Builtin.len_, head_get hts, run_underlying hd]
  · simp [builtin, Builtin.len_, head_get hts, run_underlying hd, run_underlying hb]

theorem s_cap {args : Array Operand} {ts : Array TypeId} {t e : TypeId} {rest : List TypeId} {x' : Od} {call : (CallF H)}
    (ho : o.op = .call { callee := .builtin .cap, args, argTypes := ts }) (hts : ts.toList = t :: rest) (hx : cods n args.toList = some [x']) (hH : HRel M σ w) (hE : ERel n M τ a.tmps)
    (hd : P.underlying t = some (.slice e)) (h : opCap x' call τ σ = some (v, σ')) : Did P o a w M σ v σ' := by
  obtain ⟨x, rfl, hc⟩ := map1 hx
  have hr := cod_rel hE hc
  unfold opCap at h
  split at h
  · rename_i l c e1
    rw [e1] at hr
    obtain ⟨rfl, rfl⟩ := some_inj2 h
    refine Did.pure hH ?_ (.sc rfl)
    rw [builtin_exec ho]
    simp [builtin, Builtin.cap_, head_get hts, hr.nils_inv, run_underlying hd, goInt]
  · rename_i b off l c e1
    rw [e1] at hr
    obtain ⟨rfl, rfl⟩ := some_inj2 h
    refine Did.pure hH ?_ (.sc rfl)
    rw [builtin_exec ho]
    have : ∃ q, a.eval x = .slice (some q) l c := by
      generalize a.eval x = x2 at hr
      cases hr with
      | sc h => simp [cloS] at h
      | slE h => exact ⟨_, rfl⟩
    obtain ⟨q, hq⟩ := this
    simp [builtin, Builtin.cap_, head_get hts, hq, run_underlying hd, goInt]
  · cases h

theorem foldInt_shape {f : Int → Int → Int} : ∀ (vs : List Value) (x r : Value), foldInt f x vs = some r → vs ≠ [] → ∃ k p, x = .int k p
  | [], x, r, h, hn => absurd rfl hn
  | u :: vs, x, r, h, _ => by
    unfold foldInt at h
    split at h
    · cases ‹_ = []›
    · exact ⟨_, _, rfl⟩
    · cases h

theorem foldInt_run {f : Int → Int → Int} {g : Value → Value → Sem Value} (hg : ∀ k p k' q (w : World), (g (.int k p) (.int k' q)).run P w = .ok (.int k (f p q)) w) :
    ∀ (vs vs' : List Value) (x r : Value), foldInt f x vs = some r → All2 (VRel M) vs vs' → ∀ w : World, (vs'.foldlM g x).run P w = .ok r w
  | [], _, x, r, h, .nil, w => by injection h with h; subst h; rfl
  | u :: vs, _, x, r, h, .cons hu hvs, w => by
    unfold foldInt at h
    split at h
    · cases ‹_ = []›
    · rename_i k p k' q vs0 e
      injection e with e1 e2; subst e1; subst e2
      rw [hu.int_inv]
      simp only [List.foldlM_cons, Sem.run_bind, hg, Result.andThen_ok]
      exact foldInt_run hg vs _ _ r h hvs w
    · cases h

theorem s_mn {args : Array Operand} {ts : Array TypeId} {xs : List Od} {call : (CallF H)}
    (ho : o.op = .call { callee := .builtin .min, args, argTypes := ts }) (hx : cods n args.toList = some xs) (hH : HRel M σ w) (hE : ERel n M τ a.tmps)
    (h : opMn xs call τ σ = some (v, σ')) : Did P o a w M σ v σ' := by
  have hr := cods_rel hE hx
  unfold opMn at h
  split at h
  · rename_i u us hev
    obtain ⟨hf, rfl⟩ := pureR_some h
    rw [hev] at hr
    have harg : (args.map a.eval).toList = args.toList.map a.eval := by simp
    generalize hl : args.toList.map a.eval = l at hr harg
    cases hr with
    | cons hu hus =>
      rename_i u' us'
      have hrun := fun w => foldInt_run (P := P) (g := Builtin.min2) (fun k p k' q w => rfl) us us' u v hf hus w
      refine ⟨M, ?_⟩
      cases us with
      | nil =>
        injection hf with hf; subst hf
        cases hus with
        | nil =>
          refine ⟨u', w, .inl ?_, hu, Goes.refl hH⟩
          rw [builtin_exec ho]
          simp only [builtin, Sem.run_bind, Builtin.min_, harg]
          rfl
      | cons u2 us2 =>
        obtain ⟨k, p, rfl⟩ := foldInt_shape _ _ _ hf (by simp)
        obtain rfl := hu.int_inv
        have hv : ∃ k r, v = .int k r := by
          clear hrun h
          generalize u2 :: us2 = l0 at hf
          have : ∀ (l : List Value) (k : IntKind) (p : Int), foldInt (fun a b => if b < a then b else a) (.int k p) l = some v → ∃ k r, v = .int k r := by
            intro l
            induction l with
            | nil => intro k p h; injection h with h; exact ⟨_, _, h.symm⟩
            | cons x l ih =>
              intro k p h
              unfold foldInt at h
              split at h
              · cases ‹_ = []›
              · rename_i e1 e2; injection e2 with e2 e3; subst e3; injection e1 with e1 e4; subst e1; exact ih _ _ h
              · cases h
          exact this _ _ _ hf
        obtain ⟨k2, r2, rfl⟩ := hv
        refine ⟨.int k2 r2, w, .inl ?_, .sc rfl, Goes.refl hH⟩
        rw [builtin_exec ho]
        simp only [builtin, Sem.run_bind, Builtin.min_, harg]
        have := hrun w
        simp only [this, Result.andThen_ok, Sem.run_pure]
  · cases h

theorem s_mx {args : Array Operand} {ts : Array TypeId} {xs : List Od} {call : (CallF H)}
    (ho : o.op = .call { callee := .builtin .max, args, argTypes := ts }) (hx : cods n args.toList = some xs) (hH : HRel M σ w) (hE : ERel n M τ a.tmps)
    (h : opMx xs call τ σ = some (v, σ')) : Did P o a w M σ v σ' := by
  have hr := cods_rel hE hx
  unfold opMx at h
  split at h
  · rename_i u us hev
    obtain ⟨hf, rfl⟩ := pureR_some h
    rw [hev] at hr
    have harg : (args.map a.eval).toList = args.toList.map a.eval := by simp
    generalize hl : args.toList.map a.eval = l at hr harg
    cases hr with
    | cons hu hus =>
      rename_i u' us'
      have hrun := fun w => foldInt_run (P := P) (g := Builtin.max2) (fun k p k' q w => by simp [Builtin.max2]) us us' u v hf hus w
      refine ⟨M, ?_⟩
      cases us with
      | nil =>
        injection hf with hf; subst hf
        cases hus with
        | nil =>
          refine ⟨u', w, .inl ?_, hu, Goes.refl hH⟩
          rw [builtin_exec ho]
          simp only [builtin, Sem.run_bind, Builtin.max_, harg]
          rfl
      | cons u2 us2 =>
        obtain ⟨k, p, rfl⟩ := foldInt_shape _ _ _ hf (by simp)
        obtain rfl := hu.int_inv
        have hv : ∃ k r, v = .int k r := by
          clear hrun h
          generalize u2 :: us2 = l0 at hf
          have : ∀ (l : List Value) (k : IntKind) (p : Int), foldInt (fun a b => if a < b then b else a) (.int k p) l = some v → ∃ k r, v = .int k r := by
            intro l
            induction l with
            | nil => intro k p h; injection h with h; exact ⟨_, _, h.symm⟩
            | cons x l ih =>
              intro k p h
              unfold foldInt at h
              split at h
              · cases ‹_ = []›
              · rename_i e1 e2; injection e2 with e2 e3; subst e3; injection e1 with e1 e4; subst e1; exact ih _ _ h
              · cases h
          exact this _ _ _ hf
        obtain ⟨k2, r2, rfl⟩ := hv
        refine ⟨.int k2 r2, w, .inl ?_, .sc rfl, Goes.refl hH⟩
        rw [builtin_exec ho]
        simp only [builtin, Sem.run_bind, Builtin.max_, harg]
        have := hrun w
        simp only [this, Result.andThen_ok, Sem.run_pure]
  · cases h


/-! maps -/
theorem keyIs_cases {kk : Bool} {k : Value} (h : keyIs kk k = true) : (kk = true ∧ ∃ i m, k = .int i m) ∨ (kk = false ∧ ∃ s, k = .string s) := by
  unfold keyIs at h
  split at h
  · exact .inl ⟨rfl, _, _, rfl⟩
  · exact .inr ⟨rfl, _, rfl⟩
  · cases h

theorem keyIs_rel {kk : Bool} {k k' : Value} (h : keyIs kk k = true) (hr : VRel M k k') : k' = k := by
  rcases keyIs_cases h with ⟨_, i, m, rfl⟩ | ⟨_, s, rfl⟩
  · exact hr.int_inv
  · exact hr.string_inv

theorem keyK_under {kt : TypeId} {kk : Bool} (h : keyK P kt = some kk) : ∃ d, P.underlying kt = some d ∧ ((kk = true ∧ ∃ i, d = .int i) ∨ (kk = false ∧ d = .string)) := by
  unfold keyK at h
  split at h
  · rename_i i hd; injection h with h; exact ⟨_, hd, .inl ⟨h.symm, _, rfl⟩⟩
  · rename_i hd; injection h with h; exact ⟨_, hd, .inr ⟨h.symm, rfl⟩⟩
  · cases h

theorem checkKey_run {kt : TypeId} {kk : Bool} {k : Value} (hk : keyK P kt = some kk) (hi : keyIs kk k = true) (e : Bool) (m : Nat) (w : World) : (Instr.checkKey e (m + 1) kt k).run P w = .ok () w := by
  obtain ⟨d, hd, h⟩ := keyK_under hk
  unfold Instr.checkKey
  simp only [Sem.run_bind, run_underlying hd, Result.andThen_ok]
  rcases h with ⟨rfl, i, rfl⟩ | ⟨rfl, rfl⟩ <;> rcases keyIs_cases hi with ⟨h1, i2, m2, rfl⟩ | ⟨h1, s, rfl⟩ <;> first | (cases h1; done) | rfl

theorem keyEq_same {kk : Bool} {d : TypeDesc} {k u : Value} {b : Bool} (hd : (kk = true ∧ ∃ i, d = .int i) ∨ (kk = false ∧ d = .string)) (hi : keyIs kk k = true) (h : keyEq k u = some b) : Instr.sameNow d k u = some b ∧ (b = true → u = k) := by
  unfold keyEq at h
  split at h
  · split at h
    · rename_i hj
      subst hj
      injection h with h; subst h
      rcases hd with ⟨rfl, i, rfl⟩ | ⟨rfl, rfl⟩
      · refine ⟨by simp [Instr.sameNow]; rfl, fun e => by simp at e; rw [e]⟩
      · simp [keyIs] at hi
    · cases h
  · rename_i p q
    injection h with h; subst h
    rcases hd with ⟨rfl, i, rfl⟩ | ⟨rfl, rfl⟩
    · simp [keyIs] at hi
    · have e : (p == q) = (p.data.toList == q.data.toList) := by
        rw [Bool.eq_iff_iff, MapKept.bytes_beq, beq_iff_eq]
        exact ⟨fun e => by rw [e], fun e => by cases p; cases q; congr 1; exact Array.toList_inj.1 e⟩
      refine ⟨by simp [Instr.sameNow, e], fun e2 => ?_⟩
      rw [← e, MapKept.bytes_beq] at e2
      rw [e2]
  · cases h

/-- where the key stands, here and there -/
theorem findE_run {kk : Bool} {d : TypeDesc} {k : Value} (hd : (kk = true ∧ ∃ i, d = .int i) ∨ (kk = false ∧ d = .string)) (hi : keyIs kk k = true) : ∀ (es es' : List MapEntry) (i : Nat) (r : Option (Nat × Value)),
    findE k es i = some r → All2 (ERelE M) es es' →
    (r = none ∧ Instr.findNow d k es' i = some none) ∨
    ∃ j e e', r = some (i + j, e.val) ∧ es[j]? = some e ∧ es'[j]? = some e' ∧ ERelE M e e' ∧ e.key = k ∧ Instr.findNow d k es' i = some (some (i + j, e'.val))
  | [], _, i, r, h, .nil => by injection h with h; exact .inl ⟨h.symm, rfl⟩
  | e :: es, _, i, r, h, .cons (b := e') (bs := es') he hes => by
    simp only [findE] at h
    cases hq : keyEq k e.key with
    | none => rw [hq] at h; cases h
    | some b =>
      rw [hq] at h
      obtain ⟨h1, h2⟩ := keyEq_same hd hi hq
      rw [he.key] at h1
      cases b with
      | true =>
        injection h with h
        exact .inr ⟨0, e, e', h.symm, rfl, rfl, he, h2 rfl, by simp [Instr.findNow, h1]⟩
      | false =>
        rcases findE_run hd hi es es' (i + 1) r h hes with ⟨h3, h4⟩ | ⟨j, e₁, e₂, h3, h4, h5, h6, h7, h8⟩
        · exact .inl ⟨h3, by simp [Instr.findNow, h1, h4]⟩
        · refine .inr ⟨j + 1, e₁, e₂, by rw [h3]; congr 2; omega, by simpa using h4, by simpa using h5, h6, h7, ?_⟩
          simp [Instr.findNow, h1, h8]; omega

theorem findKey_run {kt : TypeId} {d : TypeDesc} {k : Value} {l : List MapEntry} {r : Option (Nat × Value)} (hd : P.underlying kt = some d) (h : Instr.findNow d k l 0 = some r) (w : World) : (Instr.findKey kt k l).run P w = .ok r w := by
  simp [Instr.findKey, run_underlying hd, h]

def lkV (ok : Bool) (z : Value) : Option (Nat × Value) → Value
  | some (_, u) => if ok then .tuple #[u, .bool true] else u
  | none => if ok then .tuple #[z, .bool false] else z

theorem lookup_run {t kt e : TypeId} {d : TypeDesc} {kk ok : Bool} {z k mv : Value} {es' : Array MapEntry} (hd : P.underlying t = some (.map kt e)) (hk : keyK P kt = some kk) (hkd : P.underlying kt = some d) (hzr : ∀ w, (zeroValue e).run P w = .ok z w)
    (hi : keyIs kk k = true) (hm : (mv = .map none ∧ es' = #[]) ∨ ∃ B clock, mv = .map (some B) ∧ w.heap[B]? = some (.map es' clock)) {r1 : Option (Nat × Value)} (hf : Instr.findNow d k es'.toList 0 = some r1) :
    (Instr.lookup t mv k ok).run P w = .ok (lkV ok z r1) w := by
  have hck := fun b w => checkKey_run (P := P) hk hi b 9999 w
  have hfk := fun w => findKey_run (P := P) hkd hf w
  rcases hm with ⟨rfl, rfl⟩ | ⟨B, clock, rfl, hb⟩
  · simp only [Instr.lookup, Sem.run_bind, run_underlying hd, Result.andThen_ok, Sem.run_pure, hck, hfk]
    cases r1 with
    | none => simp [hzr, lkV]
    | some q => obtain ⟨i, u⟩ := q; simp [lkV]
  · simp only [Instr.lookup, Sem.run_bind, run_underlying hd, Result.andThen_ok, Sem.run_pure, ax_getObj_map hb, hck, hfk]
    cases r1 with
    | none => simp [hzr, lkV]
    | some q => obtain ⟨i, u⟩ := q; simp [lkV]

theorem s_lookup {t kt e : TypeId} {m k : Operand} {m' k' : Od} {z : Value} {kk ok : Bool} {call : (CallF H)} (ho : o.op = .lookup t m k ok) (hd : P.underlying t = some (.map kt e)) (hk : keyK P kt = some kk) (hz : zOf P e = some z)
    (hm : cod n m = some m') (hkc : cod n k = some k') (hH : HRel M σ w) (hE : ERel n M τ a.tmps) (h : opLookup kk z m' k' ok call τ σ = some (v, σ')) : Did P o a w M σ v σ' := by
  have hrm := cod_rel hE hm
  have hrk := cod_rel hE hkc
  obtain ⟨hzc, hzr⟩ := zOf_run hz
  obtain ⟨d, hkd, hdk⟩ := keyK_under hk
  unfold opLookup at h
  split at h
  · rename_i es hes
    cases hi : keyIs kk (ev k' τ) with
    | false => rw [hi] at h; cases h
    | true =>
      rw [hi] at h
      simp only [cond_true] at h
      have hke := keyIs_rel hi hrk
      have hm0 : ∃ r, ev m' τ = .map r := by
        unfold St.map at hes
        split at hes <;> first | exact ⟨_, by assumption⟩ | (cases hes)
      obtain ⟨r, hr⟩ := hm0
      rw [hr] at hes hrm
      have hmm : ∃ es' : Array MapEntry, All2 (ERelE M) es es'.toList ∧ ((a.eval m = .map none ∧ es' = #[]) ∨ ∃ B clock, a.eval m = .map (some B) ∧ w.heap[B]? = some (.map es' clock)) := by
        rcases map_at hes hrm hH with ⟨rfl, hmv, rfl⟩ | ⟨q, B, es', clock, rfl, hmv, _, hb, hrel⟩
        · exact ⟨#[], .nil, .inl ⟨hmv, rfl⟩⟩
        · exact ⟨es', hrel, .inr ⟨B, clock, hmv, hb⟩⟩
      obtain ⟨es', hrel, hmv⟩ := hmm
      have hexec : ∀ r1 : Option (Nat × Value), Instr.findNow d (ev k' τ) es'.toList 0 = some r1 → (execOp a.eval o).run P w =
          .ok (.value (lkV ok z r1)) w := fun r1 hf => by
        have := lookup_run (ok := ok) hd hk hkd hzr hi hmv hf
        simp only [execOp, ho, Sem.run_bind, hke, this, Result.andThen_ok, Sem.run_pure]
      split at h
      · rename_i i u hfind
        rcases findE_run (M := M) hdk hi es es'.toList 0 _ hfind hrel with ⟨h1, _⟩ | ⟨j, e1, e2, h1, h2, h3, h4, h5, h6⟩
        · cases h1
        · injection h1 with h1; injection h1 with h1a h1b
          obtain ⟨rfl, rfl⟩ := some_inj2 h
          refine Did.pure hH (hexec _ h6) ?_
          cases ok with
          | true => rw [h1b]; exact .tuple (.cons h4.val (.cons (.sc rfl) .nil))
          | false => rw [h1b]; exact h4.val
      · rename_i hfind
        rcases findE_run (M := M) hdk hi es es'.toList 0 _ hfind hrel with ⟨_, h6⟩ | ⟨j, e1, e2, h1, _⟩
        · obtain ⟨rfl, rfl⟩ := some_inj2 h
          refine Did.pure hH (hexec _ h6) ?_
          cases ok with
          | true => exact .tuple (.cons (clo_rel M z hzc) (.cons (.sc rfl) .nil))
          | false => exact clo_rel M z hzc
        · cases h1
      · cases h
  · cases h

/-- a map turns in its place -/
theorem put_map {q B O x clock clock' : Nat} {es : List MapEntry} {es' : Array MapEntry} {nes : List MapEntry} {nes' : Array MapEntry} (hH : HRel M σ w) (hobj : σ.obj q = some (.map es clock)) (hM : M q = some (B, O, x)) (hb : w.heap[B]? = some (.map es' clock))
    (hrel : All2 (ERelE M) nes nes'.toList) :
    Goes M σ w M (σ.put q (some (.map nes clock'))) { w with heap := w.heap.setIfInBounds B (.map nes' clock') } :=
  put_goes hH hobj rfl hM (.map (MapKept.heap_set hb).1 hrel) (fun B' hB' => (MapKept.heap_set hb).2 B' hB') (by simp) rfl rfl rfl

theorem All2.modify {r : MapEntry → MapEntry → Prop} {f g : MapEntry → MapEntry} : ∀ {es es' : List MapEntry} (i : Nat), All2 r es es' → (∀ e e', es[i]? = some e → es'[i]? = some e' → r e e' → r (f e) (g e')) → All2 r (es.modify i f) (es'.modify i g)
  | _, _, i, .nil, _ => by simpa using All2.nil
  | _, _, 0, .cons h t, hf => by simpa using All2.cons (hf _ _ rfl rfl h) t
  | _, _, i + 1, .cons h t, hf => by simpa using All2.cons h (All2.modify i t fun e e' h1 h2 => hf e e' (by simpa using h1) (by simpa using h2))

theorem setE_eq (v : Value) : ∀ (es : List MapEntry) (i : Nat), setE v es i = es.modify i fun e => { e with val := v }
  | [], i => by cases i <;> simp [setE]
  | e :: es, 0 => by simp [setE]
  | e :: es, i + 1 => by simp [setE, setE_eq v es i]

theorem delE_eq : ∀ (es : List MapEntry) (i : Nat), delE es i = es.eraseIdx i
  | [], i => by cases i <;> simp [delE]
  | e :: es, 0 => by simp [delE]
  | e :: es, i + 1 => by simp [delE, delE_eq es i]

theorem nthE_eq : ∀ (es : List MapEntry) (i : Nat), nthE es i = es[i]?
  | [], i => by cases i <;> simp [nthE]
  | e :: es, 0 => by simp [nthE]
  | e :: es, i + 1 => by simp [nthE, nthE_eq es i]

theorem All2.eraseIdx {α β : Type} {r : α → β → Prop} : ∀ {es : List α} {es' : List β} (i : Nat), All2 r es es' → All2 r (es.eraseIdx i) (es'.eraseIdx i)
  | _, _, i, .nil => by simpa using All2.nil
  | _, _, 0, .cons h t => by simpa using t
  | _, _, i + 1, .cons h t => by simpa using All2.cons h (All2.eraseIdx i t)

theorem keyStays_run {kk : Bool} {k : Value} (hi : keyIs kk k = true) (w : World) : (Instr.keyThatStays k k).run P w = .ok k w := by
  rcases keyIs_cases hi with ⟨_, i, m, rfl⟩ | ⟨_, s, rfl⟩
  · simp [Instr.keyThatStays, Instr.sameBits]
  · have : (s == s) = true := (MapKept.bytes_beq s s).2 rfl
    simp [Instr.keyThatStays, Instr.sameBits, this]

theorem ax_setObj_map {r : Nat} {es : Array MapEntry} {c : Nat} (ob : Obj) (hb : w.heap[r]? = some (.map es c)) : (setObj r ob).run P w = .ok () { w with heap := w.heap.setIfInBounds r ob } := by
  simp [setObj, Sem.run, hb]

theorem s_mapUpdate {t kt e : TypeId} {m k x : Operand} {m' k' x' : Od} {kk : Bool} {call : (CallF H)} (ho : o.op = .mapUpdate t m k x) (hd : P.underlying t = some (.map kt e)) (hk : keyK P kt = some kk)
    (hm : cod n m = some m') (hkc : cod n k = some k') (hx : cod n x = some x') (hH : HRel M σ w) (hE : ERel n M τ a.tmps) (h : opMapUpdate kk m' k' x' call τ σ = some (v, σ')) : Did P o a w M σ v σ' := by
  have hrm := cod_rel hE hm
  have hrk := cod_rel hE hkc
  have hrx := cod_rel hE hx
  obtain ⟨d, hkd, hdk⟩ := keyK_under hk
  unfold opMapUpdate at h
  split at h
  · rename_i q hq
    rw [hq] at hrm
    split at h
    · rename_i es clock hobj
      cases hi : keyIs kk (ev k' τ) with
      | false => rw [hi] at h; cases h
      | true =>
        rw [hi] at h
        simp only [cond_true] at h
        have hke := keyIs_rel hi hrk
        obtain ⟨B, O, xx, hM, hmv⟩ := hrm.map_inv
        obtain ⟨B', O', x3, hM', hor⟩ := hH.at_ _ _ hobj
        rw [hM] at hM'; injection hM' with hM'; injection hM' with h1 h2; subst h1
        cases hor with
        | map hb hrel =>
          rename_i es'
          have hck := fun w => checkKey_run (P := P) hk hi false 9999 w
          split at h
          · rename_i i u hfind
            rcases findE_run (M := M) hdk hi es es'.toList 0 _ hfind hrel with ⟨h1, _⟩ | ⟨j, e1, e2, h1, h2, h3, h4, h5, h6⟩
            · cases h1
            · injection h1 with h1; injection h1 with h1a h1b
              rw [Nat.zero_add] at h1a h6
              subst h1a
              obtain ⟨rfl, rfl⟩ := some_inj2 h
              have hj : es'[i]? = some e2 := by simpa using h3
              have hk2 : e2.key = ev k' τ := by rw [← h4.key, h5]
              refine ⟨M, undef, _, .inr ⟨?_, rfl⟩, undef_rel M, put_map (nes' := es'.modify i fun e => { e with key := ev k' τ, val := a.eval x }) hH hobj hM hb ?_⟩
              · simp only [execOp, ho, Sem.run_bind, Instr.mapUpdate, run_underlying hd, Result.andThen_ok, hmv, ax_getObj_map hb, hke, hck, findKey_run hkd h6, hj, Option.map_some, Option.getD_some, hk2, keyStays_run hi, ax_setObj_map _ hb, Sem.run_pure]
              · rw [setE_eq, Array.toList_modify]
                refine hrel.modify i fun e e' he he' hr => ⟨?_, hrx, hr.born⟩
                rw [h2] at he; injection he with he; rw [← he, h5]
          · rename_i hfind
            rcases findE_run (M := M) hdk hi es es'.toList 0 _ hfind hrel with ⟨_, h6⟩ | ⟨j, e1, e2, h1, _⟩
            · obtain ⟨rfl, rfl⟩ := some_inj2 h
              refine ⟨M, undef, _, .inr ⟨?_, rfl⟩, undef_rel M, put_map (nes' := es'.push { key := ev k' τ, val := a.eval x, born := clock }) hH hobj hM hb ?_⟩
              · simp only [execOp, ho, Sem.run_bind, Instr.mapUpdate, run_underlying hd, Result.andThen_ok, hmv, ax_getObj_map hb, hke, hck, findKey_run hkd h6, ax_setObj_map _ hb, Sem.run_pure]
              · rw [Array.toList_push]
                exact hrel.append (.cons ⟨rfl, hrx, rfl⟩ .nil)
            · cases h1
          · cases h
    · cases h
  · cases h

theorem s_mapEntry {t kt e : TypeId} {m k : Operand} {m' k' : Od} {z : Value} {kk : Bool} {call : (CallF H)} (ho : o.op = .mapEntry t m k) (hd : P.underlying t = some (.map kt e)) (hk : keyK P kt = some kk) (hz : zOf P e = some z)
    (hm : cod n m = some m') (hkc : cod n k = some k') (hH : HRel M σ w) (hE : ERel n M τ a.tmps) (h : opMapEntry kk z m' k' call τ σ = some (v, σ')) : Did P o a w M σ v σ' := by
  have hrm := cod_rel hE hm
  have hrk := cod_rel hE hkc
  obtain ⟨hzc, hzr⟩ := zOf_run hz
  obtain ⟨d, hkd, hdk⟩ := keyK_under hk
  unfold opMapEntry at h
  split at h
  · rename_i q hq
    rw [hq] at hrm
    split at h
    · rename_i es clock hobj
      cases hi : keyIs kk (ev k' τ) with
      | false => rw [hi] at h; cases h
      | true =>
        rw [hi] at h
        simp only [cond_true] at h
        have hke := keyIs_rel hi hrk
        obtain ⟨B, O, xx, hM, hmv⟩ := hrm.map_inv
        obtain ⟨B', O', x3, hM', hor⟩ := hH.at_ _ _ hobj
        rw [hM] at hM'; injection hM' with hM'; injection hM' with h1 h2; subst h1
        cases hor with
        | map hb hrel =>
          rename_i es'
          have hck := fun w => checkKey_run (P := P) hk hi false 9999 w
          split at h
          · rename_i i u hfind
            rcases findE_run (M := M) hdk hi es es'.toList 0 _ hfind hrel with ⟨h1, _⟩ | ⟨j, e1, e2, h1, h2, h3, h4, h5, h6⟩
            · cases h1
            · injection h1 with h1; injection h1 with h1a h1b
              rw [Nat.zero_add] at h1a h6
              subst h1a
              rw [nthE_eq, h2] at h
              obtain ⟨rfl, rfl⟩ := some_inj2 h
              have hj : es'[i]? = some e2 := by simpa using h3
              have hk2 : e2.key = ev k' τ := by rw [← h4.key, h5]
              have hput : Goes M σ w M (σ.put q (some (.map es clock))) { w with heap := w.heap.setIfInBounds B (.map (es'.modify i fun e => { e with key := ev k' τ }) clock) } := by
                refine put_map hH hobj hM hb ?_
                rw [Array.toList_modify]
                have := hrel.modify (f := id) (g := fun e => { e with key := ev k' τ }) i fun e e' he he' hr => ⟨?_, hr.val, hr.born⟩
                · rwa [show es.modify i id = es from by simp] at this
                · rw [h2] at he; injection he with he; show e.key = ev k' τ; rw [← he, h5]
              -- the abstract heap reads as before
              have hsame : ∀ c, (σ.put q (some (.map es clock))).obj c = σ.obj c := fun c => by
                by_cases e : c = q
                · subst e; rw [St.obj_put _ _ _ (St.obj_lt hobj), hobj]
                · exact St.obj_put_ne _ _ _ _ (St.obj_lt hobj) e
              refine ⟨M, .tuple #[e2.val, goInt e2.born], _, .inl ?_, ?_, hput.le, hput.only, Nat.le_refl _, ⟨?_, ?_⟩, ?_, ?_, hput.size, hput.tape, hput.os, hput.output, fun b o' hb' => hput.objs b o' (by rw [hsame]; exact hb')⟩
              · simp only [execOp, ho, Sem.run_bind, Instr.mapEntry, run_underlying hd, Result.andThen_ok, hmv, ax_getObj_map hb, hke, hck, findKey_run hkd h6, hj, Option.map_some, Option.getD_some, hk2, keyStays_run hi, ax_setObj_map _ hb, Sem.run_pure]
              · rw [h1b, h4.born]; exact .tuple (.cons h4.val (.cons (.sc rfl) .nil))
              · exact fun b o' hb' => hput.rel.at_ b o' (by rw [hsame]; exact hb')
              · exact fun b b' o1 o2 _ _ _ _ _ _ h1 h2 => hput.rel.apart b b' o1 o2 _ _ _ _ _ _ (by rw [hsame]; exact h1) (by rw [hsame]; exact h2)
              · rintro B1 ⟨b, o1, O1, x1, h1, h2, h3⟩; exact hput.foot B1 ⟨b, o1, O1, x1, by rw [hsame]; exact h1, h2, h3⟩
              · exact hput.keep
          · rename_i hfind
            rcases findE_run (M := M) hdk hi es es'.toList 0 _ hfind hrel with ⟨_, h6⟩ | ⟨j, e1, e2, h1, _⟩
            · obtain ⟨rfl, rfl⟩ := some_inj2 h
              refine ⟨M, .tuple #[z, goInt clock], _, .inl ?_, .tuple (.cons (clo_rel M z hzc) (.cons (.sc rfl) .nil)), put_map (nes' := es'.push { key := ev k' τ, val := z, born := clock }) hH hobj hM hb ?_⟩
              · simp only [execOp, ho, Sem.run_bind, Instr.mapEntry, run_underlying hd, Result.andThen_ok, hmv, ax_getObj_map hb, hke, hck, findKey_run hkd h6, hzr, ax_setObj_map _ hb, Sem.run_pure]
              · rw [Array.toList_push]
                exact hrel.append (.cons ⟨rfl, clo_rel M z hzc, rfl⟩ .nil)
            · cases h1
          · cases h
    · cases h
  · cases h

end Go.Ax

namespace Go.Ax
open Go
variable {H : HeapI}

variable {P : Program} {n : Nat} {M : Mp} {σ σ' : (St H)} {w : World} {a : Act} {τ : Env} {o : Oper} {v : Value}

/-- what an append adds: a slice's elements, or so many zeros -/
inductive More (P : Program) (w : World) (u : TypeId) (size bytes : Nat) (z : List Value) (k : Nat) (news : List Value) : Value → Prop
  | elems {e q c} : P.underlying u = some (.slice e) → (∀ w2 : World, w2.heap = w.heap → (Builtin.firstCells size k (.slice q k c)).run P w2 = .ok news.toArray w2) → More P w u size bytes z k news (.slice q k c)
  | zeros {k0 kk} {m : Int} : P.underlying u = some (.int k0) → 0 ≤ m → m ≤ 2 ^ 40 → m * bytes ≤ 2 ^ 40 → k = m.toNat → news = rep z k → More P w u size bytes z k news (.int kk m)

theorem zeroCells_rep (z : Value) (hz : 0 < z.cells.toList.length) (k : Nat) : Builtin.zeroCells z.cells k = (rep z.cells.toList k).toArray := by
  have := rep_cells z hz k
  apply Array.ext'
  simpa [Builtin.zeroCells] using this

section
variable {t u ty e : TypeId} {i : TypeInfo} {z : Value} {k sLen sCap : Nat} {news : List Value} {xv : Value}
  (ht : P.underlying t = some (.slice e)) (hi : P.info? e = some i) (hz : i.zero = some z) (hzs : z.cells.toList.length = i.size) (h0 : 0 < i.size)
  (hm : More P w u i.size i.bytes z.cells.toList k news xv)
include ht hi hz hzs h0 hm

theorem append_room_nil (hroom : sLen + k ≤ sCap) :
    (Builtin.append_ #[t, u] ty #[.slice none sLen sCap, xv]).run P w = .ok (.slice none (sLen + k) sCap) w := by
  have hn : sLen + k ≤ sCap := hroom
  cases hm with
  | elems hu hf =>
    simp [Builtin.append_, run_underlying ht, run_underlying hu, sizeOf, typeInfo, hi, Builtin.lenOf, hn, hf w rfl]
  | zeros hu h1 h2 h3 hk hnews =>
    rename_i kk m
    subst hk
    have hw := wrap_small h1 h2
    have g1 : ¬ m < 0 := by omega
    have g2 : ¬ (281474976710656 < m * (i.bytes : Int)) := by omega
    by_cases hsz : m.toNat * i.size = 0
    · simp [Builtin.append_, run_underlying ht, run_underlying hu, sizeOf, typeInfo, hi, hn, asInt, asIntOf, hw, g1, g2, hsz]
    · simp [Builtin.append_, run_underlying ht, run_underlying hu, sizeOf, typeInfo, zeroValue, hi, hz, hn, asInt, asIntOf, hw, g1, g2]

theorem append_room_some {b : Addr} {w' : World} (hroom : sLen + k ≤ sCap) (hst : (storeCells (b.add (sLen * i.size)) news).run P w = .ok () w') :
    (Builtin.append_ #[t, u] ty #[.slice (some b) sLen sCap, xv]).run P w = .ok (.slice (some b) (sLen + k) sCap) w' := by
  have hn : sLen + k ≤ sCap := hroom
  cases hm with
  | elems hu hf =>
    simp [Builtin.append_, run_underlying ht, run_underlying hu, sizeOf, typeInfo, hi, Builtin.lenOf, hn, hf w rfl, hst]
  | zeros hu h1 h2 h3 hk hnews =>
    rename_i kk m
    subst hk
    have hw := wrap_small h1 h2
    have g1 : ¬ m < 0 := by omega
    have g2 : ¬ (281474976710656 < m * (i.bytes : Int)) := by omega
    have hzc := zeroCells_rep z (by omega) m.toNat
    subst hnews
    by_cases hsz : m.toNat * i.size = 0
    · have hmn : m.toNat = 0 := by
        rcases Nat.mul_eq_zero.1 hsz with h | h
        · exact h
        · omega
      rw [hmn] at hst
      simp only [rep] at hst
      simp [Builtin.append_, run_underlying ht, run_underlying hu, sizeOf, typeInfo, hi, hn, asInt, asIntOf, hw, g1, g2, hsz, hst]
    · simp [Builtin.append_, run_underlying ht, run_underlying hu, sizeOf, typeInfo, zeroValue, hi, hz, hn, asInt, asIntOf, hw, g1, g2, hzc, hst]
      exact fun h => absurd h hsz

theorem append_grow_nil (hroom : sCap < sLen + k) (hl : sLen = 0) (hb : (sLen + k) * i.bytes ≤ 2 ^ 40) (hk40 : sLen + k ≤ 2 ^ 40) :
    (Builtin.append_ #[t, u] ty #[.slice none sLen sCap, xv]).run P w =
      .ok (.slice (some ⟨w.heap.size, 0, none⟩) (sLen + k) (grownCap w (sLen + k) sCap e)) (w.drew.alloc (.cells (news.toArray ++ Builtin.zeroCells z.cells (grownCap w (sLen + k) sCap e - (sLen + k))) e)) := by
  subst hl
  have hn : ¬ (0 + k ≤ sCap) := by omega
  have hn' : ¬ (k ≤ sCap) := by omega
  have h63' : ¬ (9223372036854775807 < (k : Int)) := by omega
  have h48' : ¬ (281474976710656 < Builtin.nextslicecap k sCap * i.bytes) := by
    have := growslice_fits (bytes := i.bytes) hroom (by omega)
    rw [Nat.zero_add] at this; omega
  cases hm with
  | elems hu hf =>
    simp [Builtin.append_, run_underlying ht, run_underlying hu, sizeOf, typeInfo, zeroValue, hi, hz, Builtin.lenOf, hn', h63', h48', Question.forced, run_firstCells_none, hf w.drew rfl, newRow, grownCap]
  | zeros hu h1 h2 h3 hk hnews =>
    rename_i kk m
    subst hk
    have hw := wrap_small h1 h2
    have g1 : ¬ m < 0 := by omega
    have g2 : ¬ (281474976710656 < m * (i.bytes : Int)) := by omega
    have hzc := zeroCells_rep z (by omega) m.toNat
    subst hnews
    have hsz' : ¬ (m.toNat = 0 ∨ i.size = 0) := by omega
    have g3 : ¬ (9223372036854775807 < max m 0) := by omega
    simp [Builtin.append_, run_underlying ht, run_underlying hu, sizeOf, typeInfo, zeroValue, hi, hz, hn', h48', g3, asInt, asIntOf, hw, g1, g2, hzc, Question.forced, run_firstCells_none, newRow, grownCap]
    rw [if_neg (by omega), if_neg (fun h => hsz' (Nat.mul_eq_zero.1 h))]

theorem append_grow_some {b : Addr} {olds : List Value} (hz0 : ∃ q c, xv = .slice q k c) (hlo : olds.length = sLen * i.size) (holds : ∀ (j : Nat) v, olds[j]? = some v → w.cell? (b.add j) = some v) (hroom : sCap < sLen + k) (hb : (sLen + k) * i.bytes ≤ 2 ^ 40) (hk40 : sLen + k ≤ 2 ^ 40) :
    (Builtin.append_ #[t, u] ty #[.slice (some b) sLen sCap, xv]).run P w =
      .ok (.slice (some ⟨w.heap.size, 0, none⟩) (sLen + k) (grownCap w (sLen + k) sCap e)) (w.drew.alloc (.cells (olds.toArray ++ news.toArray ++ Builtin.zeroCells z.cells (grownCap w (sLen + k) sCap e - (sLen + k))) e)) := by
  have hn : ¬ (sLen + k ≤ sCap) := by omega
  have h63' : ¬ (9223372036854775807 < ((sLen : Int) + (k : Int))) := by omega
  have h48' : ¬ (281474976710656 < Builtin.nextslicecap (sLen + k) sCap * i.bytes) := by have := growslice_fits (bytes := i.bytes) hroom (by omega); omega
  have hfo := run_firstCells_some (P := P) w.drew i.size sLen b sLen sCap olds hlo (by simpa using holds)
  cases hm with
  | elems hu hf =>
    simp [Builtin.append_, run_underlying ht, run_underlying hu, sizeOf, typeInfo, zeroValue, hi, hz, Builtin.lenOf, hn, h63', h48', Question.forced, hf w.drew rfl, hfo, newRow, grownCap]
    congr 2
    apply Array.ext'
    simp [List.append_assoc]
  | zeros => obtain ⟨q, c, h⟩ := hz0; cases h
end

/-- a block is forgotten -/
theorem drop_goes {b : Nat} (hH : HRel M σ w) (hb : H.ok b = true) : Goes M σ w M (σ.put b none) w := by
  have hobj : ∀ c oc, (σ.put b none).obj c = some oc → σ.obj c = some oc := fun c oc h => by
    by_cases e : c = b
    · subst e; rw [St.obj_put _ _ _ hb] at h; cases h
    · rwa [St.obj_put_ne _ _ _ _ hb e] at h
  exact ⟨Mp.le_refl M, fun _ h => absurd rfl h, Nat.le_refl _, ⟨fun c oc h => hH.at_ c oc (hobj _ _ h), fun c c' o1 o2 _ _ _ _ _ _ h1 h2 => hH.apart c c' o1 o2 _ _ _ _ _ _ (hobj _ _ h1) (hobj _ _ h2)⟩,
    fun B ⟨c, oc, O, x, h1, h2, h3⟩ => .inl ⟨c, oc, O, x, hobj _ _ h1, h2, h3⟩, fun _ _ _ => rfl, Nat.le_refl _, rfl, rfl, rfl, fun c oc h => .inl ⟨oc, hobj _ _ h, rfl⟩⟩

/-- a block is taken over under a new number -/
theorem adopt_goes {b B O x O' x' : Nat} {oc o' : AObj} {f : Nat → Value} {w' : World} (hH : HRel M σ w) (hob : σ.obj b = some oc) (hw : oc.writable = true) (hM : M b = some (B, O, x))
    (h : fresh (σ.put b none) o' f = some (v, σ')) (fr : Fresh M σ σ') (hr : ∀ M' : Mp, M.le M' → ObjRel M' B O' x' w' o') (hother : ∀ B', B' ≠ B → w'.heap[B']? = w.heap[B']?)
    (hsize : w'.heap.size = w.heap.size) (ht : w'.tape = w.tape) (hos : w'.os = w.os) (hout : w'.output = w.output) (how : o'.writable = true := by rfl) :
    ∃ M', v = f σ.nxt ∧ M' σ.nxt = some (B, O', x') ∧ Goes M σ w M' σ' w' := by
  have hblt := St.obj_lt hob
  unfold fresh at h
  cases hlt : H.ok (σ.put b none).nxt with
  | false => rw [hlt] at h; cases h
  | true =>
    rw [hlt] at h
    have hn : H.ok σ.nxt = true := hlt
    injection h with h
    injection h with h1 h2
    subst h1; subst h2
    have hnone : M σ.nxt = none := fr.1 σ.nxt (Nat.le_refl _) (Nat.lt_succ_self _)
    let M' : Mp := fun c => if c = σ.nxt then some (B, O', x') else M c
    have hle : M.le M' := fun c t hc => by
      have : c ≠ σ.nxt := fun e => by rw [e, hnone] at hc; cases hc
      simp [M', this, hc]
    have hM' : M' σ.nxt = some (B, O', x') := by simp [M']
    have hbn : b ≠ σ.nxt := fun e => by rw [e, hnone] at hM; cases hM
    let σ₂ : (St H) := ⟨H.set (σ.put b none).heap (σ.put b none).nxt (some o'), Nat.succ (σ.put b none).nxt⟩
    have hself : σ₂.obj σ.nxt = some o' := St.obj_mk_same _ _ _ _ hn
    have hobj : ∀ c, c ≠ σ.nxt → ∀ oc', σ₂.obj c = some oc' → c ≠ b ∧ σ.obj c = some oc' := fun c hc oc' h => by
      have h' : (σ.put b none).obj c = some oc' := by
        have : σ₂.obj c = (σ.put b none).obj c := St.obj_mk_ne _ _ _ _ _ hn hc
        rw [← this]; exact h
      by_cases e : c = b
      · subst e; rw [St.obj_put _ _ _ hblt] at h'; cases h'
      · exact ⟨e, by rwa [St.obj_put_ne _ _ _ _ hblt e] at h'⟩
    refine ⟨M', rfl, hM', hle, ?_, Nat.le_succ _, ⟨?_, ?_⟩, ?_, ?_, by omega, ht, hos, hout, fun c oc' hc => ?_⟩
    · intro c hc
      by_cases e : c = σ.nxt
      · subst e; exact ⟨Nat.le_refl _, Nat.lt_succ_self _⟩
      · simp [M', e] at hc
    · intro c oc' hc
      by_cases e : c = σ.nxt
      · subst e; rw [hself] at hc; injection hc with hc; subst hc
        exact ⟨_, _, _, hM', hr M' hle⟩
      · obtain ⟨hcb, hc'⟩ := hobj c e oc' hc
        obtain ⟨B2, O2, x2, hm, hr2⟩ := hH.at_ _ _ hc'
        exact ⟨B2, O2, x2, hle _ _ hm, hr2.keep hle (hother B2 (hH.apart _ _ _ _ _ _ _ _ _ _ hob hc' hw (Ne.symm hcb) hM hm).symm)⟩
    · intro c c' o1 o2 B1 O1 x1 B2 O2 x2 hc hc' hwr hne hm hm'
      by_cases e : c = σ.nxt
      · subst e
        rw [hM'] at hm; injection hm with hm; injection hm with hm1 _; subst hm1
        have e' : c' ≠ σ.nxt := hne.symm
        obtain ⟨hcb, hc2⟩ := hobj c' e' o2 hc'
        simp only [M', e', if_false] at hm'
        exact hH.apart _ _ _ _ _ _ _ _ _ _ hob hc2 hw (Ne.symm hcb) hM hm'
      · obtain ⟨hcb, hc2⟩ := hobj c e o1 hc
        simp only [M', e, if_false] at hm
        by_cases e' : c' = σ.nxt
        · subst e'
          rw [hM'] at hm'; injection hm' with hm'; injection hm' with hm1 _; subst hm1
          exact hH.apart _ _ _ _ _ _ _ _ _ _ hc2 hob hwr hcb hm hM
        · obtain ⟨hcb', hc3⟩ := hobj c' e' o2 hc'
          simp only [M', e', if_false] at hm'
          exact hH.apart _ _ _ _ _ _ _ _ _ _ hc2 hc3 hwr hne hm hm'
    · rintro B1 ⟨c, o1, O1, x1, hc, hwr, hm⟩
      by_cases e : c = σ.nxt
      · subst e
        rw [hM'] at hm; injection hm with hm; injection hm with hm1 _; subst hm1
        exact .inl ⟨b, oc, O, x, hob, hw, hM⟩
      · obtain ⟨hcb, hc2⟩ := hobj c e o1 hc
        simp only [M', e, if_false] at hm
        exact .inl ⟨c, o1, O1, x1, hc2, hwr, hm⟩
    · intro B1 _ hnf
      refine hother B1 fun e => hnf ?_
      subst e
      exact ⟨b, oc, O, x, hob, hw, hM⟩
    · by_cases e : c = σ.nxt
      · subst e; rw [hself] at hc; injection hc with hc; subst hc
        exact .inr ⟨how, Nat.le_refl _, Nat.lt_succ_self _⟩
      · exact .inl ⟨oc', (hobj c e oc' hc).2, rfl⟩

theorem allOne_mem : ∀ {l : List Value}, allOne l = true → ∀ u ∈ l, oneC u = true
  | [], _, u, h => by cases h
  | x :: l, h, u, hu => by
    simp only [allOne, Bool.and_eq_true] at h
    rcases List.mem_cons.1 hu with e | e
    · exact e ▸ h.1
    · exact allOne_mem h.2 u e


theorem firstC_rel {q : Option Addr} {size k c : Nat} {new : List Value} {xv : Value} (hH : HRel M σ w) (h : firstC σ size k (.slice q k c) = some new) (hr : VRel M (.slice q k c) xv) :
    ∃ q' c' news, xv = .slice q' k c' ∧ All2 (VRel M) new news ∧ ∀ w2 : World, w2.heap = w.heap → (Builtin.firstCells size k (.slice q' k c')).run P w2 = .ok news.toArray w2 := by
  cases q with
  | none =>
    injection h with h; subst h
    exact ⟨none, c, [], hr.nils_inv, .nil, fun w2 _ => run_firstCells_none w2 _ _ _ _⟩
  | some p =>
    obtain ⟨⟨p', c', he⟩, hsl⟩ := hr.slice_inv
    simp only [firstC] at h
    by_cases hk : k = 0
    · subst hk
      rw [beq_yes] at h
      injection h with h; subst h
      refine ⟨some p', c', [], he, .nil, fun w2 _ => ?_⟩
      simp [Builtin.firstCells, loadCells, loadCellsFrom]
    · rw [beq_no hk] at h
      simp only [cond_false] at h
      obtain ⟨B, O, x, hM, c2, he2⟩ := hsl hk
      split at h
      · rename_i cs hcs
        obtain ⟨ro, z, hobj⟩ := cells_obj hcs
        obtain ⟨B', O', x', hM', hor⟩ := hH.at_ _ _ hobj
        rw [hM] at hM'; injection hM' with hM'; injection hM' with h1 h2; injection h2 with h2 h3; subst h1; subst h2; subst h3
        cases hor with
        | @cells _ _ _ cc e fr hb hcells _ _ =>
          obtain ⟨hl, hnew⟩ := get_some cs _ _ new h
          have hnl : new.length = k * size := by subst hnew; simp; omega
          have hget : ∀ i u, new[i]? = some u → ∃ u', cc[O + (p.off + i)]? = some u' ∧ VRel M u u' := fun i u hi => by
            refine hcells (p.off + i) u ?_
            subst hnew
            simp only [List.getElem?_take, List.getElem?_drop] at hi
            split at hi
            · exact hi
            · cases hi
          let news := (List.range (k * size)).map fun i => cc.getD (O + (p.off + i)) undef
          have hcc : ∀ i, i < k * size → cc[O + (p.off + i)]? = some (cc.getD (O + (p.off + i)) undef) := fun i hi => by
            obtain ⟨u', hu', _⟩ := hget i _ (List.getElem?_eq_getElem (by omega))
            simp [Array.getD_eq_getD_getElem?, hu']
          refine ⟨_, _, news, he2, All2.of_get (by simp [news, hnl]) fun i u hi => ?_, fun w2 hw2 => ?_⟩
          · obtain ⟨u', hu', hru⟩ := hget i u hi
            have his : i < k * size := by rw [← hnl]; exact (List.getElem?_eq_some_iff.1 hi).1
            refine ⟨u', ?_, hru⟩
            simp [news, his, Array.getD_eq_getD_getElem?, hu']
          · refine run_firstCells_some (P := P) w2 size k _ k c2 news (by simp [news]) fun j u hj => ?_
            have hjs : j < k * size := by
              by_cases hjs : j < k * size
              · exact hjs
              · simp [news, hjs] at hj
            have hv : u = cc.getD (O + (p.off + j)) undef := by
              rw [show news[j]? = some (cc.getD (O + (p.off + j)) undef) from by simp [news, hjs]] at hj
              injection hj with hj; exact hj.symm
            rw [Addr.add_lit]
            unfold World.cell?
            rw [hw2, hb]
            show cc[O + p.off + j]? = some u
            rw [hv, Nat.add_assoc]; exact hcc j hjs
      · cases h

theorem bind_some' {α β : Type} {x : Option α} {f : α → Option β} {r : β} (h : x.bind f = some r) : ∃ y, x = some y ∧ f y = some r := Option.bind_eq_some_iff.1 h

theorem zOf_info {t : TypeId} {z : Value} (h : zOf P t = some z) : ∃ i, P.info? t = some i ∧ i.zero = some z ∧ clo z = true := by
  unfold zOf at h
  obtain ⟨i, hi, h⟩ := bind_some' h
  obtain ⟨z', hz, h⟩ := bind_some' h
  cases hc : clo z' with
  | false => rw [hc] at h; cases h
  | true => rw [hc] at h; injection h with h; subst h; exact ⟨i, hi, hz, hc⟩

/-- the value and the world behind a growth into a new block -/
theorem grow_new {cs : List Value} {c : Array Value} {e : TypeId} {need cap' size : Nat} (hH : HRel M σ w) (fr : Fresh M σ σ') (hcs : All2 (VRel M) cs c.toList) (hlen : cs.length = need * size)
    (hcap : need ≤ cap') (rest : Array Value) (hrest : rest.size = (cap' - need) * size) (h : growTo σ cs size need = some (v, σ')) :
    ∃ M', VRel M' v (.slice (some ⟨w.heap.size, 0, none⟩) need cap') ∧ Goes M σ w M' σ' (w.drew.alloc (.cells (c ++ rest) e)) := by
  have hH' : HRel M σ w.drew := hH.of_heap rfl
  have hc := hcs.length
  simp at hc
  obtain ⟨M', rfl, hM, hg⟩ := fresh_goes (w := w.drew) hH' h fr (.cells (c ++ rest) e) (cap' - need) fun M' le =>
    .cells (c := c ++ rest) (e := e) (fr := (0, 0)) (by show (w.heap.push _)[w.heap.size]? = _; simp) (fun i u hi => by
      obtain ⟨u', hu, hr⟩ := hcs.get i u hi
      have : i < c.size := by rw [← hc]; exact (List.getElem?_eq_some_iff.1 hi).1
      exact ⟨u', by simp at hu; simp [Array.getElem?_append_left this, hu], hr.mono le⟩) (by simp [hrest]; omega) (fun _ => rfl) (fun _ => rfl)
  refine ⟨M', ?_, (Goes.draw hH _).trans hg⟩
  have := VRel.slL (o := 0) (l := need) (c := need) hM
  simpa [Nat.add_sub_cancel' hcap] using this


theorem mul_sub_right {a b s : Nat} : (a - b) * s = a * s - b * s := Nat.sub_mul a b s

theorem append_nil_k {size : Nat} {new : List Value} (h0 : 0 < size) {k : Nat} (hl : new.length = k * size) (hk : k = 0) : new = [] := by
  subst hk; exact List.eq_nil_of_length_eq_zero (by simpa using hl)

set_option maxHeartbeats 1000000 in
theorem s_append {args : Array Operand} {ts : Array TypeId} {t u e : TypeId} {s' x' : Od} {size bytes : Nat} {z : Value} {zs : Bool} {call : (CallF H)}
    (ho : o.op = .call { callee := .builtin .append, args, argTypes := ts }) (hts : ts.toList = [t, u]) (hx : cods n args.toList = some [s', x']) (hH : HRel M σ w) (hE : ERel n M τ a.tmps)
    (ht : P.underlying t = some (.slice e)) (hs : szOf P e = some size) (hb : byOf P e = some bytes) (hz : zOf P e = some z) (hu : zerosOf P u = some zs) (hzs : z.cells.toList.length = size) (h0 : 0 < size)
    (fr : Fresh M σ σ') (h : opAppend size bytes z.cells.toList zs s' x' call τ σ = some (v, σ')) : Did P o a w M σ v σ' := by
  obtain ⟨so, xo, rfl, hsc, hxc⟩ := map2 hx
  have hrs := cod_rel hE hsc
  have hrx := cod_rel hE hxc
  obtain ⟨i, hi, hiz, hzc⟩ := zOf_info hz
  have hisz : i.size = size := by unfold szOf at hs; rw [hi] at hs; injection hs
  have hiby : i.bytes = bytes := by unfold byOf at hb; rw [hi] at hb; injection hb
  have htu : ts = #[t, u] := by rw [← Array.toArray_toList (xs := ts), hts]
  subst hisz; subst hiby; subst htu
  -- the call
  have hexec : ∀ (r : Value) (w' : World), (Builtin.append_ #[t, u] o.type #[a.eval so, a.eval xo]).run P w = .ok r w' → (execOp a.eval o).run P w = .ok (.value r) w' := fun r w' hr => by
    rw [builtin_exec ho]
    simp [builtin, hr]
  unfold opAppend at h
  split at h
  · rename_i base len cap hev
    rw [hev] at hrs
    split at h
    · cases h
    · rename_i k hk
      split at h
      · cases h
      · rename_i new hnew
        cases hlb : Nat.beq new.length (k * i.size) with
        | false => rw [hlb] at h; cases h
        | true =>
        rw [hlb] at h
        simp only [cond_true] at h
        have hnl := Nat.eq_of_beq_eq_true hlb
        -- what is added
        have hmore : ∃ news, All2 (VRel M) new news ∧ More P w u i.size i.bytes z.cells.toList k news (a.eval xo) ∧ (zs = false → ∃ q c, a.eval xo = .slice q k c) := by
          unfold moreN at hk
          split at hk
          · rename_i kk m hx2
            rw [hx2] at hrx
            split at hk
            · rename_i hc
              injection hk with hk
              injection hnew with hnew
              subst hnew
              have hud : ∃ k0, P.underlying u = some (.int k0) := by
                unfold zerosOf at hu
                split at hu <;> first | (injection hu with hu; cases hu; done) | exact ⟨_, by assumption⟩ | (cases hu)
              obtain ⟨k0, hud⟩ := hud
              refine ⟨_, (clo_cells (M := M) hzc).rep k, ?_, fun e => by cases e⟩
              rw [hrx.int_inv]
              exact .zeros hud hc.1 hc.2.1 hc.2.2 hk.symm rfl
            · cases hk
          · rename_i q kk c hx2
            rw [hx2] at hrx
            injection hk with hk
            subst hk
            have hud : ∃ e', P.underlying u = some (.slice e') := by
              unfold zerosOf at hu
              split at hu <;> first | exact ⟨_, by assumption⟩ | (injection hu with hu; cases hu; done) | (cases hu)
            obtain ⟨e', hud⟩ := hud
            have hnew' : firstC σ i.size kk (.slice q kk c) = some new := by rw [← hx2]; exact hnew
            obtain ⟨q', c', news, he, hrel, hfc⟩ := firstC_rel (P := P) hH hnew' hrx
            refine ⟨news, hrel, ?_, fun _ => ⟨q', c', he⟩⟩
            rw [he]
            exact .elems hud hfc
          · cases hk
        obtain ⟨news, hnews, hm, hmz⟩ := hmore
        have hnl2 : news.length = k * i.size := by rw [← hnews.length]; exact hnl
        unfold appendTo at h
        cases hble : Nat.ble (len + k) cap with
        | true =>
          rw [hble] at h
          simp only [cond_true] at h
          have hroom := Nat.le_of_ble_eq_true hble
          split at h
          · -- a nil slice with room
            obtain ⟨rfl, rfl⟩ := some_inj2 h
            refine Did.pure hH (hexec _ _ ?_) (.sc rfl)
            rw [hrs.nils_inv]
            exact append_room_nil ht hi hiz hzs h0 hm hroom
          · rename_i p
            by_cases hk0 : k = 0
            · subst hk0
              rw [beq_yes] at h
              obtain ⟨rfl, rfl⟩ := some_inj2 h
              have hn0 : news = [] := append_nil_k h0 hnl2 rfl
              subst hn0
              refine Did.pure hH (v' := a.eval so) (hexec _ _ ?_) hrs
              have hsl : ∃ q c', a.eval so = .slice (some q) len c' ∧ len ≤ c' := by
                generalize a.eval so = x2 at hrs
                cases hrs with
                | sc hq => simp [cloS] at hq
                | slE hq => exact ⟨_, _, rfl, hroom⟩
                | slL hq => exact ⟨_, _, rfl, by omega⟩
                | slU => exact ⟨_, _, rfl, Nat.zero_le _⟩
              obtain ⟨q, c', he, hle⟩ := hsl
              rw [he]
              exact append_room_some ht hi hiz hzs h0 hm hle rfl
            · rw [beq_no hk0] at h
              simp only [cond_false] at h
              split at h
              · rename_i cs zz hobj
                split at h
                · rename_i cs' hput
                  obtain ⟨rfl, rfl⟩ := some_inj2 h
                  have hsl : ∃ B O x c', M p.block = some (B, O, x) ∧ a.eval so = .slice (some ⟨B, O + p.off, none⟩) len c' ∧ cap ≤ c' ∧ VRel M (.slice (some p) (len + k) cap) (.slice (some ⟨B, O + p.off, none⟩) (len + k) c') := by
                    generalize a.eval so = x2 at hrs
                    cases hrs with
                    | sc hq => simp [cloS] at hq
                    | slE hq => exact ⟨_, _, _, _, hq, rfl, Nat.le_refl _, .slE hq⟩
                    | slL hq => exact ⟨_, _, _, _, hq, rfl, Nat.le_add_right _ _, .slL hq⟩
                    | slU => omega
                  obtain ⟨B, O, x, c', hM, he, hle, hvr⟩ := hsl
                  obtain ⟨B', O', x2, hM', hor⟩ := hH.at_ _ _ hobj
                  rw [hM] at hM'; injection hM' with hM'; injection hM' with h1 h2; injection h2 with h2 h3; subst h1; subst h2; subst h3
                  cases hor with
                  | @cells _ _ _ c e2 fr2 hb2 hcells hfit hfr hz0 =>
                    obtain rfl := hfr rfl
                    obtain ⟨w', hrun, hobj', hother, hsize, ht2, hos, hout⟩ := store_cells (P := P) hb2 hcells hfit hz0 hput hnews
                    refine ⟨M, _, w', .inl (hexec _ _ ?_), hvr, put_goes hH hobj rfl hM hobj' hother hsize ht2 hos hout⟩
                    rw [he]
                    refine append_room_some ht hi hiz hzs h0 hm (by omega) ?_
                    rw [Addr.add_lit, Nat.add_assoc]
                    exact hrun
                · cases h
              · cases h
        | false =>
          rw [hble] at h
          simp only [cond_false] at h
          have hroom : cap < len + k := by
            rcases Nat.lt_or_ge cap (len + k) with h | h
            · exact h
            · rw [Nat.ble_eq_true_of_le h] at hble; cases hble
          cases hbb : (Nat.ble ((len + k) * i.bytes) (2 ^ 40) && Nat.ble (len + k) (2 ^ 40)) with
          | false => rw [hbb] at h; cases h
          | true =>
          rw [hbb] at h
          simp only [cond_true] at h
          simp only [Bool.and_eq_true] at hbb
          have hb1 := Nat.le_of_ble_eq_true hbb.1
          have hb2 := Nat.le_of_ble_eq_true hbb.2
          have hrest : ∀ old, (Builtin.zeroCells z.cells (grownCap w (len + k) old e - (len + k))).size = (grownCap w (len + k) old e - (len + k)) * i.size := fun old => by
            rw [size_zeroCells]; congr 1
          split at h
          · -- from nil
            cases hl0 : Nat.beq len 0 with
            | false => rw [hl0] at h; cases h
            | true =>
            rw [hl0] at h
            simp only [cond_true] at h
            have hlen0 := Nat.eq_of_beq_eq_true hl0
            subst hlen0
            obtain ⟨M', hv, hg⟩ := grow_new (c := news.toArray) (e := e) (cap' := grownCap w (0 + k) cap e) hH fr (by simpa using hnews) (by rw [hnl]; simp) (grownCap_ge _ _ _ _) (Builtin.zeroCells z.cells (grownCap w (0 + k) cap e - (0 + k))) (hrest _) h
            refine ⟨M', _, _, .inl (hexec _ _ ?_), hv, hg⟩
            rw [hrs.nils_inv]
            exact append_grow_nil ht hi hiz hzs h0 hm hroom rfl hb1 hb2
          · rename_i p
            cases zs with
            | true => simp at h
            | false =>
            simp only [cond_false] at h
            obtain hxs := hmz rfl
            split at h
            · rename_i cs ro zz hobj
              split at h
              · cases h
              · rename_i old hold
                obtain ⟨hl1, hl2⟩ := get_some _ _ _ _ hold
                have hol : old.length = len * i.size := by subst hl2; simp; omega
                -- the old elements, there
                have key : ∀ (B O x : Nat), M p.block = some (B, O, x) → ∃ olds : List Value, All2 (VRel M) old olds ∧ olds.length = len * i.size ∧ (∀ (j : Nat) u, olds[j]? = some u → w.cell? ((⟨B, O + p.off, none⟩ : Addr).add j) = some u) ∧ ∃ c e2 fr2, w.heap[B]? = some (.cells c e2 fr2) ∧ CellsAt M c O cs ∧ O + cs.length + x * zz ≤ c.size ∧ (ro = false → fr2 = (0, 0)) ∧ ∀ j, j < len * i.size → c[O + p.off + j]? = olds[j]? := by
                  intro B O x hM
                  obtain ⟨B', O', x2, hM', hor⟩ := hH.at_ _ _ hobj
                  rw [hM] at hM'; injection hM' with hM'; injection hM' with h1 h2; injection h2 with h2 h3; subst h1; subst h2; subst h3
                  cases hor with
                  | @cells _ _ _ c e2 fr2 hb2 hcells hfit hfr =>
                    have hget : ∀ j u, old[j]? = some u → ∃ u', c[O + p.off + j]? = some u' ∧ VRel M u u' := fun j u hj => by
                      obtain ⟨u', hu', hr⟩ := hcells (p.off + j) u (by
                        subst hl2
                        simp only [List.getElem?_take, List.getElem?_drop] at hj
                        split at hj
                        · exact hj
                        · cases hj)
                      exact ⟨u', by rw [Nat.add_assoc]; exact hu', hr⟩
                    let olds := (List.range (len * i.size)).map fun j => c.getD (O + p.off + j) undef
                    have hcc : ∀ j, j < len * i.size → c[O + p.off + j]? = some (c.getD (O + p.off + j) undef) := fun j hj => by
                      obtain ⟨u', hu', _⟩ := hget j _ (List.getElem?_eq_getElem (by omega))
                      simp [Array.getD_eq_getD_getElem?, hu']
                    have hog : ∀ j, j < len * i.size → olds[j]? = some (c.getD (O + p.off + j) undef) := fun j hj => by simp [olds, hj]
                    refine ⟨olds, All2.of_get (by simp [olds, hol]) fun j u hj => ?_, by simp [olds], fun j u hj => ?_, c, e2, fr2, hb2, hcells, hfit, hfr, fun j hj => by rw [hcc j hj, hog j hj]⟩
                    · obtain ⟨u', hu', hr⟩ := hget j u hj
                      have hjl : j < len * i.size := by rw [← hol]; exact (List.getElem?_eq_some_iff.1 hj).1
                      refine ⟨u', ?_, hr⟩
                      rw [hog j hjl, ← hcc j hjl]; exact hu'
                    · have hjl : j < len * i.size := by
                        by_cases hjl : j < len * i.size
                        · exact hjl
                        · simp [olds, hjl] at hj
                      rw [hog j hjl] at hj
                      rw [Addr.add_lit]
                      unfold World.cell?
                      rw [hb2]
                      show c[O + p.off + j]? = some u
                      rw [hcc j hjl]; exact hj
                split at h
                · -- a slice of exact capacity
                  rename_i hsp
                  have hsl : ∃ B O x, M p.block = some (B, O, x) ∧ a.eval so = .slice (some ⟨B, O + p.off, none⟩) len cap := by
                    generalize a.eval so = x2 at hrs
                    cases hrs with
                    | sc hq => simp [cloS] at hq
                    | slE hq => exact ⟨_, _, _, hq, rfl⟩
                    | slL hq => cases hsp
                    | slU => cases hsp
                  obtain ⟨B, O, x, hM, he⟩ := hsl
                  obtain ⟨olds, hor, hol2, holds, _⟩ := key B O x hM
                  obtain ⟨M', hv, hg⟩ := grow_new (c := olds.toArray ++ news.toArray) (e := e) (cap' := grownCap w (len + k) cap e) hH fr (by simpa using hor.append hnews) (by simp [hol, hnl, Nat.add_mul]) (grownCap_ge _ _ _ _) (Builtin.zeroCells z.cells (grownCap w (len + k) cap e - (len + k))) (hrest _) h
                  refine ⟨M', _, _, .inl (hexec _ _ ?_), hv, hg⟩
                  rw [he]
                  exact append_grow_some ht hi hiz hzs h0 hm hxs hol2 holds hroom hb1 hb2
                · -- one whose capacity is open
                  rename_i hsp
                  cases hcond : (!ro && Nat.beq zz i.size && Nat.beq (p.off + cap * i.size) cs.length && allOne new) with
                  | false => rw [hcond] at h; cases h
                  | true =>
                  rw [hcond] at h
                  simp only [cond_true] at h
                  simp only [Bool.and_eq_true, Bool.not_eq_true'] at hcond
                  obtain ⟨⟨⟨hro, hzz⟩, hcl⟩, hone⟩ := hcond
                  have hzz := Nat.eq_of_beq_eq_true hzz
                  have hcl := Nat.eq_of_beq_eq_true hcl
                  have hsl : ∃ B O x, M p.block = some (B, O, x) ∧ a.eval so = .slice (some ⟨B, O + p.off, none⟩) len (cap + x) := by
                    generalize a.eval so = x2 at hrs
                    cases hrs with
                    | sc hq => simp [cloS] at hq
                    | slE hq => cases hsp
                    | slL hq => exact ⟨_, _, _, hq, rfl⟩
                    | slU => simp at hsp
                  obtain ⟨B, O, x, hM, he⟩ := hsl
                  obtain ⟨olds, hor, hol2, holds, c, e2, fr2, hb2', hcells, hfit, hfr, hco⟩ := key B O x hM
                  subst hzz
                  obtain rfl := hfr hro
                  by_cases hfits : len + k ≤ cap + x
                  · -- in its place
                    have hbig : O + p.off + (len + k) * i.size ≤ c.size := by
                      have : (len + k) * i.size ≤ (cap + x) * i.size := Nat.mul_le_mul_right _ hfits
                      rw [Nat.add_mul cap x] at this
                      omega
                    have hone' : ∀ u ∈ news, u.oneCell' = true := fun u hu => by
                      obtain ⟨j, hj⟩ := List.getElem?_of_mem hu
                      have hj2 : j < new.length := by rw [hnews.length]; exact (List.getElem?_eq_some_iff.1 hj).1
                      obtain ⟨u', hu', hr⟩ := hnews.get j new[j] (List.getElem?_eq_getElem hj2)
                      rw [hj] at hu'; injection hu' with hu'; subst hu'
                      rw [← oneC_iff, ← hr.oneC]
                      exact allOne_mem hone _ (List.getElem_mem hj2)
                    have hnl3 : news.length = k * i.size := hnl2
                    have hst := run_storeCells_at P B (O + (p.off + len * i.size)) e2 news 0 c w hb2' (by rw [hnl3]; rw [Nat.add_mul] at hbig; omega) hone'
                    simp only [Nat.add_zero] at hst
                    have hrowr : ∀ M' : Mp, M.le M' → ObjRel M' B (O + p.off) (cap + x - (len + k)) (w.setRow B (c.toList.take (O + (p.off + len * i.size)) ++ news ++ c.toList.drop (O + (p.off + len * i.size) + news.length)).toArray) (.cells (old ++ new) false i.size) := by
                      intro M' le
                      refine .cells (setRow_heap w B c _ e2 _ hb2') ?_ ?_ (fun _ => rfl) (fun e => by omega)
                      · intro j u hj
                        have htl : (c.toList.take (O + (p.off + len * i.size))).length = O + (p.off + len * i.size) := by
                          rw [Nat.add_mul] at hbig; simp; omega
                        rcases Nat.lt_or_ge j (len * i.size) with h1 | h1
                        · rw [List.getElem?_append_left (by rw [hol]; exact h1)] at hj
                          obtain ⟨u', hu', hr⟩ := hor.get j u hj
                          refine ⟨u', ?_, hr.mono le⟩
                          simp only [List.getElem?_toArray, List.append_assoc]
                          rw [List.getElem?_append_left (by rw [htl]; omega), List.getElem?_take, if_pos (by omega)]
                          have := hco j h1
                          rw [hu'] at this
                          simpa using this
                        · rw [List.getElem?_append_right (by rw [hol]; exact h1), hol] at hj
                          obtain ⟨u', hu', hr⟩ := hnews.get _ u hj
                          have hjn : j - len * i.size < news.length := (List.getElem?_eq_some_iff.1 hu').1
                          refine ⟨u', ?_, hr.mono le⟩
                          simp only [List.getElem?_toArray, List.append_assoc]
                          rw [List.getElem?_append_right (by rw [htl]; omega), htl, List.getElem?_append_left (by omega), show O + p.off + j - (O + (p.off + len * i.size)) = j - len * i.size by omega]
                          exact hu'
                      · have : (old ++ new).length = (len + k) * i.size := by simp [hol, hnl, Nat.add_mul]
                        rw [this]
                        have e3 : (cap + x - (len + k)) * i.size = (cap + x) * i.size - (len + k) * i.size := mul_sub_right
                        have e4 : (len + k) * i.size ≤ (cap + x) * i.size := Nat.mul_le_mul_right _ hfits
                        have e5 : (cap + x) * i.size = cap * i.size + x * i.size := Nat.add_mul _ _ _
                        have e6 : (len + k) * i.size = len * i.size + k * i.size := Nat.add_mul _ _ _
                        simp
                        omega
                    obtain ⟨M', rfl, hM', hg⟩ := adopt_goes (w' := w.setRow B (c.toList.take (O + (p.off + len * i.size)) ++ news ++ c.toList.drop (O + (p.off + len * i.size) + news.length)).toArray) hH hobj (by simp [AObj.writable, hro]) hM h fr hrowr
                      (fun B' hB' => by simp only [World.setRow, Array.getElem?_modify, if_neg (Ne.symm hB')]) (by simp [World.setRow]) rfl rfl rfl
                    refine ⟨M', .slice (some ⟨B, O + p.off, none⟩) (len + k) (cap + x), _, .inl (hexec _ _ ?_), ?_, hg⟩
                    · rw [he]
                      refine append_room_some ht hi hiz hzs h0 hm hfits ?_
                      rw [Addr.add_lit, Nat.add_assoc]
                      exact hst
                    · have := VRel.slL (o := 0) (l := len + k) (c := len + k) hM'
                      rwa [Nat.add_zero, show len + k + (cap + x - (len + k)) = cap + x by omega] at this
                  · -- into a new block
                    have hd := drop_goes hH (St.obj_lt hobj)
                    have fr' : Fresh M (σ.put p.block none) σ' := fr
                    obtain ⟨M', hv, hg⟩ := grow_new (c := olds.toArray ++ news.toArray) (e := e) (cap' := grownCap w (len + k) (cap + x) e) hd.rel fr' (by simpa using hor.append hnews) (by simp [hol, hnl, Nat.add_mul]) (grownCap_ge _ _ _ _) (Builtin.zeroCells z.cells (grownCap w (len + k) (cap + x) e - (len + k))) (hrest _) h
                    refine ⟨M', _, _, .inl (hexec _ _ ?_), hv, hd.trans hg⟩
                    rw [he]
                    exact append_grow_some ht hi hiz hzs h0 hm hxs hol2 holds (by omega) hb1 hb2
                · cases h
            · cases h
  · cases h

end Go.Ax

namespace Go.Ax
open Go
variable {H : HeapI}

variable {P : Program} {n : Nat} {M : Mp} {σ σ' : (St H)} {w : World} {a : Act} {τ : Env} {o : Oper} {v : Value}

theorem bornAt_some {b : Int} : ∀ (es : List MapEntry) (i j : Nat), bornAt b es i = some j → ∃ m e, j = i + m ∧ es[m]? = some e ∧ (e.born : Int) = b ∧ ∀ m' e', m' < m → es[m']? = some e' → (e'.born : Int) ≠ b
  | [], i, j, h => by cases h
  | e :: es, i, j, h => by
    unfold bornAt at h
    split at h
    · rename_i he
      injection h with h
      exact ⟨0, e, by omega, rfl, he, fun m' e' h' => by omega⟩
    · rename_i he
      obtain ⟨m, e', h1, h2, h3, h4⟩ := bornAt_some es (i + 1) j h
      refine ⟨m + 1, e', by omega, by simpa using h2, h3, fun m' e2 h' hm => ?_⟩
      cases m' with
      | zero => simp at hm; subst hm; exact he
      | succ m' => exact h4 m' e2 (by omega) (by simpa using hm)

theorem findIdx_born {b : Int} {es : Array MapEntry} {m : Nat} {e : MapEntry} (h : es[m]? = some e) (he : (e.born : Int) = b) (hn : ∀ m' e', m' < m → es[m']? = some e' → (e'.born : Int) ≠ b) :
    es.findIdx? (fun e => (e.born : Int) == b) = some m := by
  obtain ⟨hm, hme⟩ := Array.getElem?_eq_some_iff.1 h
  rw [Array.findIdx?_eq_some_iff_getElem]
  refine ⟨hm, by rw [hme]; simpa using he, fun j hj => ?_⟩
  have := hn j es[j] hj (Array.getElem?_eq_getElem (by omega))
  simpa using this

theorem s_entryStore {t : TypeId} {m s x : Operand} {m' s' x' : Od} {call : (CallF H)} (ho : o.op = .entryStore t m s x)
    (hm : cod n m = some m') (hs : cod n s = some s') (hx : cod n x = some x') (hH : HRel M σ w) (hE : ERel n M τ a.tmps) (h : opEntryStore m' s' x' call τ σ = some (v, σ')) : Did P o a w M σ v σ' := by
  have hrm := cod_rel hE hm
  have hrs := cod_rel hE hs
  have hrx := cod_rel hE hx
  unfold opEntryStore at h
  split at h
  · rename_i q kk b hq hb'
    rw [hq] at hrm
    rw [hb'] at hrs
    split at h
    · rename_i es clock hobj
      obtain ⟨B, O, xx, hM, hmv⟩ := hrm.map_inv
      obtain ⟨B', O', x3, hM', hor⟩ := hH.at_ _ _ hobj
      rw [hM] at hM'; injection hM' with hM'; injection hM' with h1 h2; subst h1
      cases hor with
      | map hb hrel =>
        rename_i es'
        split at h
        · rename_i i hfind
          obtain ⟨i', e, hi', h2, h3, h4⟩ := bornAt_some es 0 i hfind
          rw [Nat.zero_add] at hi'; subst hi'
          obtain ⟨rfl, rfl⟩ := some_inj2 h
          obtain ⟨e2, h5, h6⟩ := hrel.get i e h2
          have hfi := findIdx_born (es := es') (m := i) (e := e2) (b := b) (by simpa using h5) (by rw [← h6.born]; exact h3) (fun m' e' hm' he' => by
            have hlt : m' < es.length := by
              have h7 := (List.getElem?_eq_some_iff.1 h2).1
              omega
            obtain ⟨e3, h7, h8⟩ := hrel.get m' es[m'] (List.getElem?_eq_getElem hlt)
            have h9 : es'.toList[m']? = some e' := by simpa using he'
            rw [h9] at h7; injection h7 with h7; subst h7
            rw [← h8.born]
            exact h4 m' _ hm' (List.getElem?_eq_getElem hlt))
          refine ⟨M, undef, _, .inr ⟨?_, rfl⟩, undef_rel M, put_map (nes' := es'.modify i fun e => { e with val := a.eval x }) hH hobj hM hb ?_⟩
          · simp only [execOp, ho, Sem.run_bind, Instr.entryStore, Result.andThen_ok, hmv, ax_getObj_map hb, hrs.int_inv, asInt, asIntOf, Sem.run_pure, hfi, ax_setObj_map _ hb]
          · rw [setE_eq, Array.toList_modify]
            exact hrel.modify i fun e e' he he' hr => ⟨hr.key, hrx, hr.born⟩
        · cases h
    · cases h
  · cases h

theorem s_delete {args : Array Operand} {ts : Array TypeId} {t kt e : TypeId} {rest : List TypeId} {m' k' : Od} {kk : Bool} {call : (CallF H)}
    (ho : o.op = .call { callee := .builtin .delete, args, argTypes := ts }) (hts : ts.toList = t :: rest) (hd : P.underlying t = some (.map kt e)) (hk : keyK P kt = some kk)
    (hc : cods n args.toList = some [m', k']) (hH : HRel M σ w) (hE : ERel n M τ a.tmps) (h : opDelete kk m' k' call τ σ = some (v, σ')) : Did P o a w M σ v σ' := by
  obtain ⟨m, k, hargs, hm, hkc⟩ := map2 hc
  subst hargs
  have hrm := cod_rel hE hm
  have hrk := cod_rel hE hkc
  obtain ⟨d, hkd, hdk⟩ := keyK_under hk
  have hrun : ∀ w', (Builtin.delete_ ts o.type #[a.eval m, a.eval k]).run P w = .ok (.tuple #[]) w' → (execOp a.eval o).run P w = .ok (.value (.tuple #[])) w' := fun w' hw => by
    rw [builtin_exec ho]
    simp only [builtin, List.map_toArray, List.map_cons, List.map_nil, Sem.run_bind, hw, Result.andThen_ok, Sem.run_pure]
  have hck := fun (e : Bool) (w : World) (hi : keyIs kk (ev k' τ) = true) => checkKey_run (P := P) (k := ev k' τ) (kk := kk) hk hi e 9999 w
  unfold opDelete at h
  split at h
  · rename_i hq
    rw [hq] at hrm
    cases hi : keyIs kk (ev k' τ) with
    | false => rw [hi] at h; cases h
    | true =>
      rw [hi] at h
      obtain ⟨rfl, rfl⟩ := some_inj2 h
      have hke := keyIs_rel hi hrk
      refine Did.pure hH (v' := .tuple #[]) (hrun _ ?_) (undef_rel M)
      simp only [Builtin.delete_, head_get hts, List.getElem?_toArray, List.getElem?_cons_zero, List.getElem?_cons_succ, Sem.run_bind, run_underlying hd, Result.andThen_ok, hrm.nilm_inv, hke, hck _ _ hi, Sem.run_pure]
  · rename_i q hq
    rw [hq] at hrm
    split at h
    · rename_i es clock hobj
      cases hi : keyIs kk (ev k' τ) with
      | false => rw [hi] at h; cases h
      | true =>
        rw [hi] at h
        simp only [cond_true] at h
        have hke := keyIs_rel hi hrk
        obtain ⟨B, O, xx, hM, hmv⟩ := hrm.map_inv
        obtain ⟨B', O', x3, hM', hor⟩ := hH.at_ _ _ hobj
        rw [hM] at hM'; injection hM' with hM'; injection hM' with h1 h2; subst h1
        cases hor with
        | map hb hrel =>
          rename_i es'
          have hset : ∀ (r : Option (Nat × Value)), Instr.findNow d (ev k' τ) es'.toList 0 = some r → (Builtin.delete_ ts o.type #[a.eval m, a.eval k]).run P w = .ok (.tuple #[]) { w with heap := w.heap.setIfInBounds B (.map (match r with | some (i, _) => es'.eraseIdxIfInBounds i | none => es') clock) } := fun r hr => by
            simp only [Builtin.delete_, head_get hts, List.getElem?_toArray, List.getElem?_cons_zero, List.getElem?_cons_succ, Sem.run_bind, run_underlying hd, Result.andThen_ok, hmv, ax_getObj_map hb, hke, hck _ _ hi, findKey_run hkd hr, Sem.run_pure]
            cases r <;> simp only [ax_setObj_map _ hb, Result.andThen_ok, Sem.run_pure, Sem.run_bind]
          split at h
          · rename_i i u hfind
            rcases findE_run (M := M) hdk hi es es'.toList 0 _ hfind hrel with ⟨h1, _⟩ | ⟨j, e1, e2, h1, h2, h3, h4, h5, h6⟩
            · cases h1
            · injection h1 with h1; injection h1 with h1a h1b
              rw [Nat.zero_add] at h1a h6
              subst h1a
              obtain ⟨rfl, rfl⟩ := some_inj2 h
              refine ⟨M, .tuple #[], _, .inl (hrun _ (hset _ h6)), undef_rel M, put_map hH hobj hM hb ?_⟩
              rw [delE_eq]
              have hil : i < es'.size := by have := (List.getElem?_eq_some_iff.1 h3).1; simpa using this
              show All2 (ERelE M) (es.eraseIdx i) (es'.eraseIdxIfInBounds i).toList
              rw [Array.eraseIdxIfInBounds, dif_pos hil, Array.toList_eraseIdx]
              exact hrel.eraseIdx i
          · rename_i hfind
            rcases findE_run (M := M) hdk hi es es'.toList 0 _ hfind hrel with ⟨_, h6⟩ | ⟨j, e1, e2, h1, _⟩
            · obtain ⟨rfl, rfl⟩ := some_inj2 h
              have hput : Goes M σ w M (σ.put q (some (.map es clock))) { w with heap := w.heap.setIfInBounds B (.map es' clock) } := put_map hH hobj hM hb hrel
              have hsame : ∀ c, (σ.put q (some (.map es clock))).obj c = σ.obj c := fun c => by
                by_cases e : c = q
                · subst e; rw [St.obj_put _ _ _ (St.obj_lt hobj), hobj]
                · exact St.obj_put_ne _ _ _ _ (St.obj_lt hobj) e
              refine ⟨M, .tuple #[], _, .inl (hrun _ (hset _ h6)), undef_rel M, hput.le, hput.only, Nat.le_refl _, ⟨?_, ?_⟩, ?_, ?_, hput.size, hput.tape, hput.os, hput.output, fun b o' hb' => hput.objs b o' (by rw [hsame]; exact hb')⟩
              · exact fun b o' hb' => hput.rel.at_ b o' (by rw [hsame]; exact hb')
              · exact fun b b' o1 o2 _ _ _ _ _ _ h1 h2 => hput.rel.apart b b' o1 o2 _ _ _ _ _ _ (by rw [hsame]; exact h1) (by rw [hsame]; exact h2)
              · rintro B1 ⟨b, o1, O1, x1, h1, h2, h3⟩; exact hput.foot B1 ⟨b, o1, O1, x1, by rw [hsame]; exact h1, h2, h3⟩
              · exact hput.keep
            · cases h1
          · cases h
    · cases h
  · cases h

theorem add64_find {fn : Func} (h : fn.name = "math/bits.Add64") (h2 : fn.origin = "") : Extern.findNext fn = none ∧ Extern.find fn = some add64Entry := by
  constructor
  · unfold Extern.findNext
    rw [h, h2]
    have e1 : List.lookup "math/bits.Add64" Extern.allNextRows = none := by kernel_rfl
    have e2 : List.lookup "" Extern.allNextRows = none := by kernel_rfl
    simp only [e1, e2]; rfl
  · unfold Extern.find
    rw [h]
    have e1 : List.lookup "math/bits.Add64" Extern.allGenericRows = none := by kernel_rfl
    have e2 : List.lookup "math/bits.Add64" Extern.allTypedRows = none := by kernel_rfl
    have e3 : List.lookup "math/bits.Add64" Extern.allRows = some add64Entry := by kernel_rfl
    simp only [e1, e2, e3]; rfl

theorem s_add64 {f : FuncId} {args : Array Operand} {ts : Array TypeId} {x' y' c' : Od} {call : (CallF H)}
    (ho : o.op = .call { callee := .value (.func f), args, argTypes := ts }) (hf : isAdd P f = true)
    (hc : cods n args.toList = some [x', y', c']) (hH : HRel M σ w) (hE : ERel n M τ a.tmps) (h : opAdd64 x' y' c' call τ σ = some (v, σ')) : Did P o a w M σ v σ' := by
  have hr := cods_rel hE hc
  unfold opAdd64 at h
  split at h
  · rename_i x y c hx hy hcc
    split at h
    · rename_i hcond
      obtain ⟨rfl, rfl⟩ := some_inj2 h
      have hr' : All2 (VRel M) [.int .u64 x, .int .u64 y, .int .u64 c] (args.toList.map a.eval) := by
        have : evs [x', y', c'] τ = [.int .u64 x, .int .u64 y, .int .u64 c] := by show [ev x' τ, ev y' τ, ev c' τ] = _; rw [hx, hy, hcc]
        rw [← this]; exact hr
      have hargs : (args.map a.eval) = #[.int .u64 x, .int .u64 y, .int .u64 c] := by
        apply Array.toList_inj.1
        rw [Array.toList_map]
        generalize args.toList.map a.eval = l at hr'
        cases hr' with | cons h1 hr => cases hr with | cons h2 hr => cases hr with | cons h3 hr => cases hr with | nil =>
          rw [h1.int_inv, h2.int_inv, h3.int_inv]
      unfold isAdd at hf
      split at hf
      · rename_i fn hfn
        simp only [Bool.and_eq_true, Bool.not_eq_true', beq_iff_eq] at hf
        obtain ⟨hbody, hname, horg⟩ := hf
        obtain ⟨e1, e2⟩ := add64_find hname horg
        have hng : (fn.name == "runtime.NumGoroutine") = false := by rw [hname]; decide
        have hbn : fn.body.isNone = true := by cases hb : fn.body <;> simp_all
        refine Did.pure hH (v' := .tuple #[.int .u64 ((x + y + c) % 18446744073709551616), .int .u64 ((x + y + c) / 18446744073709551616)]) ?_ (.tuple (.cons (.sc rfl) (.cons (.sc rfl) .nil)))
        simp only [execOp, ho, resolve, hargs, Sem.run_bind, Act.eval, Deferred.ofValue, Sem.run_pure, Result.andThen_ok, invoke, Array.append_empty, Array.empty_append]
        rw [run_callFunc_extern hfn hng hbn e1 e2, run_add64 x y c hcond.1 hcond.2.1 hcond.2.2.1 hcond.2.2.2]
        rfl
      · cases hf
    · cases h
  · cases h

end Go.Ax

